import PyProof.Rows.All
import Wide.All
import OpenK.AllK
import Wide.FinOn
import HandS.ForMost
import HandS.Evl
import HandS.Conv
import HandS.More
import HandS.SortInts
import HandS.IsInst
import HandS.TupMul
import HandS.TupAny
import HandS.TupSets
import HandS.SetFor
import HandS.List
import KE.KSortTupG
import KE.KSortTupUse
import HandS.Style
import HandS.Wide
import HandS.Exc
import HandS.ExcIs
import HandS.TryOnly
import HandS.ExcOwn
import HandS.ExcValue
import HandS.WordsExc
import HandS.TupLe
import HandS.Zip
import HandS.DictComp
import HandS.Star
import PySem.Challenge.RW_warmove_k50_whole_fetched_while_it_runs
set_option Elab.async false
set_option linter.all false
set_option maxRecDepth 100000
namespace GL
open PySem L2
abbrev Fg := PySem.W.Frag
class Py (α : Type) where
  rep : Fg → Hp → V → α → Prop
  mono : ∀ {K : Fg} {H H' : Hp} {v : V} {x : α}, Same H H' → rep K H v x → rep K H' v x
instance : Py Int := ⟨fun _ _ v x => v = .int x, fun _ h => h⟩
instance : Py Bool := ⟨fun _ _ v x => v = .bl x, fun _ h => h⟩
instance : Py Str := ⟨fun _ _ v x => v = .str x, fun _ h => h⟩
instance : Py Unit := ⟨fun _ _ v _ => v = .non, fun _ h => h⟩
def RepL {α : Type} [Py α] (K : Fg) (S : Hp) : List V → List α → Prop
  | [], [] => True
  | v :: vs, x :: xs => Py.rep K S v x ∧ RepL K S vs xs
  | _, _ => False
section
variable {α : Type} [Py α] {K : Fg} {S S' : Hp}
theorem RepL.mono (e : Same S S') : ∀ {vs : List V} {xs : List α}, RepL K S vs xs → RepL K S' vs xs
  | [], [], _ => True.intro
  | _ :: _, _ :: _, h => ⟨Py.mono e h.1, RepL.mono e h.2⟩
  | [], _ :: _, h => h.elim
  | _ :: _, [], h => h.elim
theorem RepL.len : ∀ {vs : List V} {xs : List α}, RepL K S vs xs → vs.length = xs.length
  | [], [], _ => rfl
  | _ :: vs, _ :: xs, h => by rw [List.length_cons, List.length_cons, RepL.len h.2]
  | [], _ :: _, h => h.elim
  | _ :: _, [], h => h.elim
theorem RepL.app : ∀ {vs ws : List V} {xs ys : List α}, RepL K S vs xs → RepL K S ws ys → RepL K S (vs ++ ws) (xs ++ ys)
  | [], _, [], _, _, h => h
  | _ :: _, _, _ :: _, _, h, h' => ⟨h.1, RepL.app h.2 h'⟩
  | [], _, _ :: _, _, h, _ => h.elim
  | _ :: _, _, [], _, h, _ => h.elim
theorem RepL.snoc {vs : List V} {xs : List α} {v : V} {x : α} (h : RepL K S vs xs) (r : Py.rep K S v x) : RepL K S (vs ++ [v]) (xs ++ [x]) := h.app ⟨r, True.intro⟩
theorem RepL.get : ∀ {vs : List V} {xs : List α} {i : Nat} {x : α}, RepL K S vs xs → xs[i]? = some x → ∃ v, vs[i]? = some v ∧ Py.rep K S v x
  | [], [], _, _, _, e => by simp at e
  | v :: _, y :: _, 0, x, h, e => by
    simp only [List.getElem?_cons_zero, Option.some.injEq] at e
    subst e
    exact ⟨v, rfl, h.1⟩
  | _ :: vs, _ :: xs, i + 1, x, h, e => by
    obtain ⟨w, h1, h2⟩ := RepL.get (vs := vs) (xs := xs) (i := i) (x := x) h.2 (by simpa using e)
    exact ⟨w, by simpa using h1, h2⟩
  | [], _ :: _, _, _, h, _ => h.elim
  | _ :: _, [], _, _, h, _ => h.elim
theorem RepL.set : ∀ {vs : List V} {xs : List α} {i : Nat} {v : V} {x : α}, RepL K S vs xs → Py.rep K S v x → RepL K S (vs.set i v) (xs.set i x)
  | [], [], _, _, _, _, _ => True.intro
  | _ :: _, _ :: _, 0, _, _, h, r => ⟨r, h.2⟩
  | _ :: _, _ :: _, _ + 1, _, _, h, r => ⟨h.1, RepL.set h.2 r⟩
  | [], _ :: _, _, _, _, h, _ => h.elim
  | _ :: _, [], _, _, _, h, _ => h.elim
theorem RepL.drop : ∀ {vs : List V} {xs : List α} (n : Nat), RepL K S vs xs → RepL K S (vs.drop n) (xs.drop n)
  | _, _, 0, h => h
  | [], [], _ + 1, _ => True.intro
  | _ :: _, _ :: _, n + 1, h => RepL.drop n h.2
  | [], _ :: _, _, h => h.elim
  | _ :: _, [], _, h => h.elim
theorem RepL.take : ∀ {vs : List V} {xs : List α} (n : Nat), RepL K S vs xs → RepL K S (vs.take n) (xs.take n)
  | _, _, 0, _ => True.intro
  | [], [], _ + 1, _ => True.intro
  | _ :: _, _ :: _, n + 1, h => ⟨h.1, RepL.take n h.2⟩
  | [], _ :: _, _, h => h.elim
  | _ :: _, [], _, h => h.elim
theorem RepL.erase : ∀ {vs : List V} {xs : List α} (n : Nat), RepL K S vs xs → RepL K S (vs.eraseIdx n) (xs.eraseIdx n)
  | [], [], _, _ => True.intro
  | _ :: _, _ :: _, 0, h => h.2
  | _ :: _, _ :: _, n + 1, h => ⟨h.1, RepL.erase n h.2⟩
  | [], _ :: _, _, h => h.elim
  | _ :: _, [], _, h => h.elim
theorem RepL.rep {vs : List V} {xs : List α} (h : RepL K S vs xs) : ∀ n : Nat, RepL K S (List.replicate n vs).flatten (List.replicate n xs).flatten
  | 0 => True.intro
  | n + 1 => by
    rw [List.replicate_succ, List.replicate_succ, List.flatten_cons, List.flatten_cons]
    exact h.app (RepL.rep h n)
end
theorem RepL.ints {K : Fg} {S : Hp} : ∀ {vs : List V} {xs : List Int}, RepL K S vs xs → vs = xs.map V.int
  | [], [], _ => rfl
  | _ :: _, _ :: _, h => by
    rw [List.map_cons, ← RepL.ints h.2, show _ = V.int _ from h.1]
  | [], _ :: _, h => h.elim
  | _ :: _, [], h => h.elim
theorem RepL.of_ints {K : Fg} {S : Hp} : ∀ (xs : List Int), RepL K S (xs.map V.int) xs
  | [] => True.intro
  | _ :: xs => ⟨rfl, RepL.of_ints xs⟩
theorem seqT {K : Fg} {H H' : Hp} {a : Addr} {xs : List V} (e : Same H H') (h : SqT K H a xs) : SqT K H' a xs := by
  rcases h with (h | ⟨o, h⟩) | h
  · exact .inl (.inl (e _ _ h))
  · exact .inl (.inr ⟨o, e _ _ h⟩)
  · exact .inr h
instance {α : Type} [Py α] : Py (List α) := ⟨fun K S v xs => ∃ p vs, v = .ref p ∧ S p = some (.lst vs) ∧ RepL K S vs xs, fun e ⟨p, vs, h1, h2, h3⟩ => ⟨p, vs, h1, e _ _ h2, h3.mono e⟩⟩
structure Tp (α : Type) where
  l : List α
  deriving DecidableEq
instance {α : Type} [Py α] : Py (Tp α) := ⟨fun K S v xs => ∃ p vs, v = .ref p ∧ SqT K S p vs ∧ RepL K S vs xs.l, fun e ⟨p, vs, h1, h2, h3⟩ => ⟨p, vs, h1, seqT e h2, h3.mono e⟩⟩
instance {α β : Type} [Py α] [Py β] : Py (α × β) := ⟨fun K S v x => ∃ p a b, v = .ref p ∧ SqT K S p [a, b] ∧ Py.rep K S a x.1 ∧ Py.rep K S b x.2, fun e ⟨p, a, b, h1, h2, h3, h4⟩ => ⟨p, a, b, h1, seqT e h2, Py.mono e h3, Py.mono e h4⟩⟩
structure T3 (α β γ : Type) where
  a : α
  b : β
  c : γ
  deriving DecidableEq
instance {α β γ : Type} [Py α] [Py β] [Py γ] : Py (T3 α β γ) := ⟨fun K S v x => ∃ p a b c, v = .ref p ∧ SqT K S p [a, b, c] ∧ Py.rep K S a x.a ∧ Py.rep K S b x.b ∧ Py.rep K S c x.c,
  fun e ⟨p, a, b, c, h1, h2, h3, h4, h5⟩ => ⟨p, a, b, c, h1, seqT e h2, Py.mono e h3, Py.mono e h4, Py.mono e h5⟩⟩
instance {α : Type} [Py α] : Py (Option α) := ⟨fun K S v x => match x with | none => v = .non | some y => Py.rep K S v y, fun {K H H' v x} e h => by cases x with | none => exact h | some y => exact Py.mono e h⟩
instance {α β : Type} [Py α] [Py β] : Py (Sum α β) := ⟨fun K S v x => match x with | .inl y => Py.rep K S v y | .inr y => Py.rep K S v y, fun {K H H' v x} e h => by cases x with | inl y => exact Py.mono e h | inr y => exact Py.mono e h⟩
structure Scr where
  l : List Int
instance : Py Scr := ⟨fun K S v x => ∃ p, v = .ref p ∧ SqL K S p (x.l.map V.int), fun e ⟨p, h1, h2⟩ => ⟨p, h1, e.seq h2⟩⟩
structure Dct (α : Type) where
  l : List (Int × α)
namespace Dct
variable {α : Type}
def get? (d : Dct α) (k : Int) : Option α := (d.l.find? fun kv => decide (kv.1 = k)).map (·.2)
def put (d : Dct α) (k : Int) (x : α) : Dct α := ⟨if d.l.any (fun kv => decide (kv.1 = k)) then d.l.map (fun kv => if kv.1 = k then (kv.1, x) else kv) else d.l ++ [(k, x)]⟩
def del (d : Dct α) (k : Int) : Dct α := ⟨d.l.filter fun kv => decide (kv.1 ≠ k)⟩
def emp : Dct α := ⟨[]⟩
end Dct
def RepD {α : Type} [Py α] (K : Fg) (S : Hp) : List (Key × V) → List (Int × α) → Prop
  | [], [] => True
  | kv :: kvs, x :: xs => kv.1 = .inl x.1 ∧ Py.rep K S kv.2 x.2 ∧ RepD K S kvs xs
  | _, _ => False
section
variable {α : Type} [Py α] {K : Fg} {S S' : Hp}
theorem RepD.mono (e : Same S S') : ∀ {kvs : List (Key × V)} {xs : List (Int × α)}, RepD K S kvs xs → RepD K S' kvs xs
  | [], [], _ => True.intro
  | _ :: _, _ :: _, h => ⟨h.1, Py.mono e h.2.1, RepD.mono e h.2.2⟩
  | [], _ :: _, h => h.elim
  | _ :: _, [], h => h.elim
theorem RepD.len : ∀ {kvs : List (Key × V)} {xs : List (Int × α)}, RepD K S kvs xs → kvs.length = xs.length
  | [], [], _ => rfl
  | _ :: _, _ :: _, h => by rw [List.length_cons, List.length_cons, RepD.len h.2.2]
  | [], _ :: _, h => h.elim
  | _ :: _, [], h => h.elim
theorem dec_inl (a b : Int) : decide ((Sum.inl a : Key) = Sum.inl b) = decide (a = b) := by
  by_cases e : a = b
  · subst e; simp
  · rw [decide_eq_false e, decide_eq_false (fun q => e (Sum.inl.inj q))]
theorem RepD.val : ∀ {kvs : List (Key × V)} {xs : List (Int × α)} (k : Int), RepD K S kvs xs → match (xs.find? fun kv => decide (kv.1 = k)).map (·.2) with
    | some x => ∃ v, valV kvs (Sum.inl k) = some v ∧ Py.rep K S v x
    | none => valV kvs (Sum.inl k) = none
  | [], [], _, _ => rfl
  | kv :: kvs, x :: xs, k, h => by
    obtain ⟨h1, h2, h3⟩ := h
    by_cases e : x.1 = k
    · have e1 : kv.1 = Sum.inl k := by rw [h1, e]
      rw [List.find?_cons, show decide (x.1 = k) = true from decide_eq_true e]
      exact ⟨kv.2, valV_pos e1, h2⟩
    · have e1 : ¬ kv.1 = Sum.inl k := by rw [h1]; exact fun q => e (Sum.inl.inj q)
      rw [List.find?_cons, show decide (x.1 = k) = false from decide_eq_false e, valV_neg e1]
      exact RepD.val k h3
  | [], _ :: _, _, h => h.elim
  | _ :: _, [], _, h => h.elim
theorem RepD.any : ∀ {kvs : List (Key × V)} {xs : List (Int × α)} (k : Int), RepD K S kvs xs → (kvs.any fun kv => decide (kv.1 = Sum.inl k)) = xs.any fun kv => decide (kv.1 = k)
  | [], [], _, _ => rfl
  | kv :: kvs, x :: xs, k, h => by
    rw [List.any_cons, List.any_cons, RepD.any k h.2.2, h.1, dec_inl]
  | [], _ :: _, _, h => h.elim
  | _ :: _, [], _, h => h.elim
theorem RepD.repl {v : V} {y : α} (k : Int) (r : Py.rep K S v y) : ∀ {kvs : List (Key × V)} {xs : List (Int × α)}, RepD K S kvs xs →
    RepD K S (kvs.map fun kv => if kv.1 = Sum.inl k then (kv.1, v) else kv) (xs.map fun kv => if kv.1 = k then (kv.1, y) else kv)
  | [], [], _ => True.intro
  | kv :: kvs, x :: xs, h => by
    obtain ⟨h1, h2, h3⟩ := h
    rw [List.map_cons, List.map_cons]
    by_cases e : x.1 = k
    · have e1 : kv.1 = Sum.inl k := by rw [h1, e]
      rw [if_pos e1, if_pos e]
      exact ⟨h1, r, RepD.repl k r h3⟩
    · have e1 : ¬ kv.1 = Sum.inl k := by rw [h1]; exact fun q => e (Sum.inl.inj q)
      rw [if_neg e1, if_neg e]
      exact ⟨h1, h2, RepD.repl k r h3⟩
  | [], _ :: _, h => h.elim
  | _ :: _, [], h => h.elim
theorem RepD.snoc {v : V} {y : α} (k : Int) (r : Py.rep K S v y) : ∀ {kvs : List (Key × V)} {xs : List (Int × α)}, RepD K S kvs xs → RepD K S (kvs ++ [(Sum.inl k, v)]) (xs ++ [(k, y)])
  | [], [], _ => ⟨rfl, r, True.intro⟩
  | _ :: _, _ :: _, h => ⟨h.1, h.2.1, RepD.snoc k r h.2.2⟩
  | [], _ :: _, h => h.elim
  | _ :: _, [], h => h.elim
theorem RepD.put {v : V} {y : α} (k : Int) (r : Py.rep K S v y) {kvs : List (Key × V)} {d : Dct α} (h : RepD K S kvs d.l) : RepD K S (putK kvs (Sum.inl k) v) (d.put k y).l := by
  unfold putK Dct.put
  rw [h.any k]
  by_cases e : (d.l.any fun kv => decide (kv.1 = k)) = true
  · rw [if_pos e, if_pos e]
    exact h.repl k r
  · rw [if_neg e, if_neg e]
    exact h.snoc k r
theorem RepD.del (k : Int) : ∀ {kvs : List (Key × V)} {xs : List (Int × α)}, RepD K S kvs xs → RepD K S (dropK kvs (Sum.inl k)) (xs.filter fun kv => decide (kv.1 ≠ k))
  | [], [], _ => True.intro
  | kv :: kvs, x :: xs, h => by
    obtain ⟨h1, h2, h3⟩ := h
    have ih := RepD.del k h3
    by_cases e : x.1 = k
    · have e1 : kv.1 = Sum.inl k := by rw [h1, e]
      rw [dropK_pos e1, List.filter_cons, if_neg (by simp [e])]
      exact ih
    · have e1 : ¬ kv.1 = Sum.inl k := by rw [h1]; exact fun q => e (Sum.inl.inj q)
      rw [dropK_neg e1, List.filter_cons, if_pos (by simp [e])]
      exact ⟨h1, h2, ih⟩
  | [], _ :: _, h => h.elim
  | _ :: _, [], h => h.elim
end
instance {α : Type} [Py α] : Py (Dct α) := ⟨fun K S v d => ∃ p kvs, v = .ref p ∧ S p = some (.dK kvs) ∧ RepD K S kvs d.l, fun e ⟨p, vs, h1, h2, h3⟩ => ⟨p, vs, h1, e _ _ h2, h3.mono e⟩⟩
class Own (α : Type) where
  own : Fg → Hp → Hp → V → List Addr → α → Prop
  mono : ∀ {K : Fg} {S S' H H' : Hp} {v : V} {ps : List Addr} {x : α}, Same S S' → (∀ p ∈ ps, H' p = H p) → own K S H v ps x → own K S' H' v ps x
instance {α : Type} [Py α] : Own (List α) := ⟨fun K S H v ps xs => ∃ p vs, v = .ref p ∧ ps = [p] ∧ H p = some (.lst vs) ∧ RepL K S vs xs, fun {K S S' H H' v ps x} e a ⟨p, vs, h1, h2, h3, h4⟩ =>
  ⟨p, vs, h1, h2, by rw [a p (by rw [h2]; exact List.mem_singleton.mpr rfl)]; exact h3, h4.mono e⟩⟩
instance {α : Type} [Py α] : Own (Dct α) := ⟨fun K S H v ps d => ∃ p kvs, v = .ref p ∧ ps = [p] ∧ H p = some (.dK kvs) ∧ RepD K S kvs d.l, fun {K S S' H H' v ps x} e a ⟨p, vs, h1, h2, h3, h4⟩ =>
  ⟨p, vs, h1, h2, by rw [a p (by rw [h2]; exact List.mem_singleton.mpr rfl)]; exact h3, h4.mono e⟩⟩
structure Spr where
  a : Addr
  z : Int
instance : Own Spr := ⟨fun K S H v ps x => v = .ref x.a ∧ ps = [x.a] ∧ H x.a = some (.lst [.int x.z]), fun {K S S' H H' v ps x} e a ⟨h1, h2, h3⟩ =>
  ⟨h1, h2, by rw [a x.a (by rw [h2]; exact List.mem_singleton.mpr rfl)]; exact h3⟩⟩
class Anch (ω : Type) [Own ω] where
  fp : ω → V × List Addr
  at_ : ∀ {K : Fg} {S H : Hp} {v : V} {ps : List Addr} {x : ω}, Own.own K S H v ps x → (v, ps) = fp x
instance : Anch Spr := ⟨fun x => (.ref x.a, [x.a]), fun ⟨h1, h2, _⟩ => by rw [h1, h2]⟩
inductive Sl : Type 1
  | no
  | im {α : Type} [Py α] (x : α)
  | ow {α : Type} [Own α] (x : α)
def SlOk (K : Fg) (S H : Hp) (sv : Option (Option V)) (ps : List Addr) : Sl → Prop
  | .no => True
  | @Sl.im _ inst x => ∃ v, sv = some (some v) ∧ inst.rep K S v x
  | @Sl.ow _ inst x => ∃ v, sv = some (some v) ∧ inst.own K S H v ps x
structure Kn (K : Fg) (B S0 S : Hp) (σ : St) (H : Hp) (F : Nat → List Addr) (G : List Sl) : Prop where
  s0 : Same S0 S
  sub : Same S H
  keep : Same B H
  clean : ∀ p o, B p = some o → S p = S0 p
  off : ∀ i p, p ∈ F i → S p = none ∧ B p = none ∧ ∃ o, H p = some o
  dj : ∀ i j p, p ∈ F i → p ∈ F j → i = j
  len : G.length = σ.length
  sl : ∀ i s, G[i]? = some s → SlOk K S H σ[i]? (F i) s
structure Grow (S H S' H' : Hp) : Prop where
  s : Same S S'
  sub : Same S' H'
  h : Same H H'
  cl : ∀ p o, H p = some o → S' p = S p
theorem Grow.refl {S H : Hp} (e : Same S H) : Grow S H S H := ⟨Same.refl _, e, Same.refl _, fun _ _ _ => rfl⟩
theorem Grow.trans {S H S1 H1 S2 H2 : Hp} (a : Grow S H S1 H1) (b : Grow S1 H1 S2 H2) : Grow S H S2 H2 :=
  ⟨a.s.trans b.s, b.sub, a.h.trans b.h, fun p o e => (b.cl p o (a.h p o e)).trans (a.cl p o e)⟩
theorem same_new {H : Hp} {p : Addr} {o : HO} (h : H p = none) : Same H (upd H p o) := fun b x e => by
  rw [upd_ne (ne_of_none e h)]
  exact e
theorem Grow.new {S H : Hp} {p : Addr} {o : HO} (e : Same S H) (h : H p = none) : Grow S H (upd S p o) (upd H p o) := by
  refine ⟨same_new (e.free h), fun b x q => ?_, same_new h, fun b x q => upd_ne (ne_of_none q h)⟩
  by_cases hb : b = p
  · subst hb
    rw [upd_same] at q ⊢
    exact q
  · rw [upd_ne hb] at q ⊢
    exact e b x q
theorem Grow.raw {S H : Hp} {p : Addr} {o : HO} (e : Same S H) (h : H p = none) : Grow S H S (upd H p o) := ⟨Same.refl _, e.trans (same_new h), same_new h, fun _ _ _ => rfl⟩
section
variable {K : Fg} {B S0 S S' : Hp} {σ : St} {H H' : Hp} {F : Nat → List Addr} {G : List Sl}
theorem Kn.grow (k : Kn K B S0 S σ H F G) (g : Grow S H S' H') : Kn K B S0 S' σ H' F G := by
  refine ⟨k.s0.trans g.s, g.sub, k.keep.trans g.h, fun p o e => (g.cl p o (k.keep p o e)).trans (k.clean p o e), fun i p hp => ?_, k.dj, k.len, fun i s e => ?_⟩
  · obtain ⟨h1, h2, o, h3⟩ := k.off i p hp
    exact ⟨(g.cl p o h3).trans h1, h2, o, g.h p o h3⟩
  · have q := k.sl i s e
    cases s with
    | no => exact True.intro
    | im x =>
      obtain ⟨v, h1, h2⟩ := q
      exact ⟨v, h1, Py.mono g.s h2⟩
    | ow x =>
      obtain ⟨v, h1, h2⟩ := q
      refine ⟨v, h1, Own.mono g.s (fun p hp => ?_) h2⟩
      obtain ⟨_, _, o, h3⟩ := k.off i p hp
      rw [h3]
      exact g.h p o h3
theorem Kn.new {p : Addr} {o : HO} (k : Kn K B S0 S σ H F G) (h : H p = none) : Kn K B S0 (upd S p o) σ (upd H p o) F G := k.grow (Grow.new k.sub h)
theorem Kn.raw {p : Addr} {o : HO} (k : Kn K B S0 S σ H F G) (h : H p = none) : Kn K B S0 S σ (upd H p o) F G := k.grow (Grow.raw k.sub h)
theorem Kn.settle {p : Addr} {o : HO} (k : Kn K B S0 S σ H F G) (h : H p = some o) (hs : S p = none) (hb : B p = none) (hf : ∀ i, p ∉ F i) : Kn K B S0 (upd S p o) σ H F G := by
  have e : Same S (upd S p o) := same_new hs
  refine ⟨k.s0.trans e, fun b x q => ?_, k.keep, fun b x q => ?_, fun i b hb' => ?_, k.dj, k.len, fun i s q => ?_⟩
  · by_cases hbp : b = p
    · subst hbp
      rw [upd_same] at q
      rw [h, q]
    · rw [upd_ne hbp] at q
      exact k.sub b x q
  · rw [upd_ne (ne_of_none q hb)]
    exact k.clean b x q
  · obtain ⟨h1, h2, h3⟩ := k.off i b hb'
    have ne : b ≠ p := fun z => hf i (z ▸ hb')
    exact ⟨by rw [upd_ne ne]; exact h1, h2, h3⟩
  · have z := k.sl i s q
    cases s with
    | no => exact True.intro
    | im x =>
      obtain ⟨v, h1, h2⟩ := z
      exact ⟨v, h1, Py.mono e h2⟩
    | ow x =>
      obtain ⟨v, h1, h2⟩ := z
      exact ⟨v, h1, Own.mono e (fun _ _ => rfl) h2⟩
theorem Kn.free (k : Kn K B S0 S σ H F G) {p : Addr} (h : H p = none) : S p = none ∧ B p = none ∧ ∀ i, p ∉ F i := ⟨k.sub.free h, k.keep.free h, fun i hp => by
  obtain ⟨_, _, o, e⟩ := k.off i p hp
  rw [h] at e
  cases e⟩
theorem set_get.{u} {α : Type u} {l : List α} {i j : Nat} {x y : α} (h : (l.set i x)[j]? = some y) : (j = i ∧ y = x) ∨ (j ≠ i ∧ l[j]? = some y) := by
  by_cases e : j = i
  · subst e
    by_cases hl : j < l.length
    · rw [List.getElem?_set_self hl] at h
      exact .inl ⟨rfl, (Option.some.inj h).symm⟩
    · rw [List.getElem?_eq_none (by rw [List.length_set]; omega)] at h
      cases h
  · rw [List.getElem?_set_ne (fun z => e z.symm)] at h
    exact .inr ⟨e, h⟩
theorem isSome_lt.{u} {α : Type u} {l : List α} {i : Nat} (h : l[i]?.isSome = true) : i < l.length := by
  by_cases e : i < l.length
  · exact e
  · rw [List.getElem?_eq_none (by omega)] at h
    cases h
theorem Kn.set {α : Type} [Py α] {x : α} {v : V} {i : Nat} (k : Kn K B S0 S σ H F G) (r : Py.rep K S v x) (hi : G[i]?.isSome = true) : Kn K B S0 S (σ.set i (some v)) H F (G.set i (.im x)) := by
  have hl := isSome_lt hi
  refine ⟨k.s0, k.sub, k.keep, k.clean, k.off, k.dj, by rw [List.length_set, List.length_set]; exact k.len, fun j s e => ?_⟩
  rcases set_get e with ⟨rfl, rfl⟩ | ⟨ne, e⟩
  · exact ⟨v, List.getElem?_set_self (by rw [← k.len]; exact hl), r⟩
  · rw [List.getElem?_set_ne (fun z => ne z.symm)]
    exact k.sl j s e
theorem Kn.setNo {v : Option V} {i : Nat} (k : Kn K B S0 S σ H F G) : Kn K B S0 S (σ.set i v) H F (G.set i .no) := by
  refine ⟨k.s0, k.sub, k.keep, k.clean, k.off, k.dj, by rw [List.length_set, List.length_set]; exact k.len, fun j s e => ?_⟩
  rcases set_get e with ⟨rfl, rfl⟩ | ⟨ne, e⟩
  · exact True.intro
  · rw [List.getElem?_set_ne (fun z => ne z.symm)]
    exact k.sl j s e
def upF (F : Nat → List Addr) (i : Nat) (ps : List Addr) : Nat → List Addr := fun j => if j = i then ps else F j
theorem upF_self {i : Nat} {ps : List Addr} : upF F i ps i = ps := if_pos rfl
theorem upF_ne {i j : Nat} {ps : List Addr} (h : j ≠ i) : upF F i ps j = F j := if_neg h
theorem Kn.setOwn {α : Type} [Own α] {x : α} {v : V} {i : Nat} {p : Addr} (k : Kn K B S0 S σ H F G) (r : Own.own K S H v [p] x) (hi : G[i]?.isSome = true) (hs : S p = none) (hb : B p = none) (hp : ∃ o, H p = some o) (hf : ∀ j, p ∉ F j) :
    Kn K B S0 S (σ.set i (some v)) H (upF F i [p]) (G.set i (.ow x)) := by
  have hl := isSome_lt hi
  refine ⟨k.s0, k.sub, k.keep, k.clean, fun j q hq => ?_, fun a b q ha hb' => ?_, by rw [List.length_set, List.length_set]; exact k.len, fun j s e => ?_⟩
  · by_cases e : j = i
    · subst e
      rw [upF_self] at hq
      cases List.mem_singleton.mp hq
      exact ⟨hs, hb, hp⟩
    · rw [upF_ne e] at hq
      exact k.off j q hq
  · by_cases ea : a = i
    · by_cases eb : b = i
      · rw [ea, eb]
      · rw [ea, upF_self] at ha
        rw [upF_ne eb] at hb'
        cases List.mem_singleton.mp ha
        exact absurd hb' (hf b)
    · rw [upF_ne ea] at ha
      by_cases eb : b = i
      · rw [eb, upF_self] at hb'
        cases List.mem_singleton.mp hb'
        exact absurd ha (hf a)
      · rw [upF_ne eb] at hb'
        exact k.dj a b q ha hb'
  · rcases set_get e with ⟨rfl, rfl⟩ | ⟨ne, e⟩
    · rw [upF_self]
      exact ⟨v, List.getElem?_set_self (by rw [← k.len]; exact hl), r⟩
    · rw [List.getElem?_set_ne (fun z => ne z.symm), upF_ne ne]
      exact k.sl j s e
theorem Kn.mut {α : Type} [Own α] {x : α} {v : V} {i : Nat} (k : Kn K B S0 S σ H F G) (hi : σ[i]? = some (some v)) (h1 : ∀ q, q ∉ F i → H' q = H q) (h2 : ∀ q ∈ F i, ∃ o, H' q = some o) (r : Own.own K S H' v (F i) x) :
    Kn K B S0 S σ H' F (G.set i (.ow x)) := by
  refine ⟨k.s0, fun q o e => ?_, fun q o e => ?_, k.clean, fun j q hq => ?_, k.dj, by rw [List.length_set]; exact k.len, fun j s e => ?_⟩
  · rw [h1 q fun z => by rw [(k.off i q z).1] at e; cases e]
    exact k.sub q o e
  · rw [h1 q fun z => by rw [(k.off i q z).2.1] at e; cases e]
    exact k.keep q o e
  · obtain ⟨a, b, o, c⟩ := k.off j q hq
    refine ⟨a, b, ?_⟩
    by_cases e : q ∈ F i
    · exact h2 q e
    · exact ⟨o, by rw [h1 q e]; exact c⟩
  · rcases set_get e with ⟨rfl, rfl⟩ | ⟨ne, e⟩
    · exact ⟨v, hi, r⟩
    · have z := k.sl j s e
      cases s with
      | no => exact True.intro
      | im y => exact z
      | ow y =>
        obtain ⟨u, a, b⟩ := z
        exact ⟨u, a, Own.mono (Same.refl _) (fun p hp => h1 p fun w => ne (k.dj j i p hp w)) b⟩
inductive Le : List Sl → List Sl → Prop
  | n : Le [] []
  | k {s : Sl} {G G' : List Sl} : Le G G' → Le (s :: G) (s :: G')
  | d {s : Sl} {G G' : List Sl} : Le G G' → Le (.no :: G) (s :: G')
theorem Le.get : ∀ {G G' : List Sl} {i : Nat} {s : Sl}, Le G G' → G[i]? = some s → s = .no ∨ G'[i]? = some s
  | _, _, _, _, .n, e => by simp at e
  | _, _, 0, s, .k _, e => .inr e
  | _, _, 0, s, .d _, e => .inl (Option.some.inj (by simpa using e)).symm
  | _, _, i + 1, s, .k h, e => by simpa using Le.get (i := i) h (by simpa using e)
  | _, _, i + 1, s, .d h, e => by simpa using Le.get (i := i) h (by simpa using e)
theorem Le.length : ∀ {G G' : List Sl}, Le G G' → G.length = G'.length
  | _, _, .n => rfl
  | _, _, .k h => by rw [List.length_cons, List.length_cons, h.length]
  | _, _, .d h => by rw [List.length_cons, List.length_cons, h.length]
theorem Le.refl : ∀ (G : List Sl), Le G G
  | [] => .n
  | _ :: G => .k (Le.refl G)
theorem Kn.le {G' : List Sl} (k : Kn K B S0 S σ H F G) (h : Le G' G) : Kn K B S0 S σ H F G' :=
  ⟨k.s0, k.sub, k.keep, k.clean, k.off, k.dj, h.length.trans k.len, fun i s e => by
    rcases h.get e with rfl | e
    · exact True.intro
    · exact k.sl i s e⟩
theorem Kn.im {α : Type} [Py α] {x : α} {i : Nat} (k : Kn K B S0 S σ H F G) (h : G[i]? = some (.im x)) : ∃ v, σ[i]? = some (some v) ∧ Py.rep K S v x := k.sl i _ h
theorem Kn.ow {α : Type} [Own α] {x : α} {i : Nat} (k : Kn K B S0 S σ H F G) (h : G[i]? = some (.ow x)) : ∃ v, σ[i]? = some (some v) ∧ Own.own K S H v (F i) x := k.sl i _ h
theorem Kn.relL {α : Type} [Py α] {x : List α} {i : Nat} (k : Kn K B S0 S σ H F G) (h : G[i]? = some (.ow x)) : ∃ S', Same S S' ∧ Kn K B S0 S' σ H (upF F i []) (G.set i (.im x)) := by
  obtain ⟨v, hv, p, vs, rfl, hp, h1, h2⟩ := k.ow h
  obtain ⟨hs, hb, _⟩ := k.off i p (by rw [hp]; exact List.mem_singleton.mpr rfl)
  have k1 : Kn K B S0 S σ H (upF F i []) (G.set i .no) := by
    refine ⟨k.s0, k.sub, k.keep, k.clean, fun j q hq => ?_, fun a b q ha hb' => ?_, by rw [List.length_set]; exact k.len, fun j s e => ?_⟩
    · by_cases e : j = i
      · rw [e, upF_self] at hq
        cases hq
      · rw [upF_ne e] at hq
        exact k.off j q hq
    · by_cases ea : a = i
      · rw [ea, upF_self] at ha
        cases ha
      · by_cases eb : b = i
        · rw [eb, upF_self] at hb'
          cases hb'
        · rw [upF_ne ea] at ha
          rw [upF_ne eb] at hb'
          exact k.dj a b q ha hb'
    · rcases set_get e with ⟨rfl, rfl⟩ | ⟨ne, e⟩
      · exact True.intro
      · rw [upF_ne ne]
        exact k.sl j s e
  have hf : ∀ j, p ∉ upF F i [] j := fun j hj => by
    by_cases e : j = i
    · rw [e, upF_self] at hj
      cases hj
    · rw [upF_ne e] at hj
      exact e (k.dj j i p hj (by rw [hp]; exact List.mem_singleton.mpr rfl))
  have k2 := k1.settle h1 hs hb hf
  refine ⟨upd S p (.lst vs), same_new hs, ?_⟩
  have hl : i < G.length := (List.getElem?_eq_some_iff.mp h).1
  have k3 := k2.set (i := i) (v := .ref p) (x := x) ⟨p, vs, rfl, upd_same, h2.mono (same_new hs)⟩ (by rw [List.getElem?_set_self hl]; rfl)
  have e1 : σ.set i (some (.ref p)) = σ := by
    apply List.ext_getElem?
    intro j
    by_cases e : i = j
    · subst e
      rw [List.getElem?_set_self (by rw [← k.len]; exact hl)]
      exact hv.symm
    · rw [List.getElem?_set_ne e]
  rw [e1, List.set_set] at k3
  exact k3
end
end GL
namespace GL
open PySem L2
section
variable {α : Type}
def EvX [Py α] (K : Fg) (te : TE) (G : List Sl) (x : α) (G' : List Sl) : Prop :=
  ∀ B S0 S σ H F, Kn K B S0 S σ H F G → ∀ Q : VK, (∀ v S' H', Same S S' → Kn K B S0 S' σ H' F G' → Py.rep K S' v x → Q v H') → te σ H Q
def EvL [Py α] (K : Fg) (te : TE) (G : List Sl) (xs : List α) (G' : List Sl) : Prop :=
  ∀ B S0 S σ H F, Kn K B S0 S σ H F G → ∀ Q : VK, (∀ p vs S' H', Same S S' → Kn K B S0 S' σ H' F G' → S' p = none → B p = none → (∀ j, p ∉ F j) → H' p = some (.lst vs) → RepL K S' vs xs → Q (.ref p) H') → te σ H Q
def Rdl [Py α] (K : Fg) (S : Hp) (σ : St) (G : List Sl) (v : V) (xs : List α) : Prop := Py.rep K S v xs ∨ ∃ i : Nat, σ[i]? = some (some v) ∧ G[i]? = some (Sl.ow xs)
def EvC [Py α] (K : Fg) (te : TE) (G : List Sl) (xs : List α) (G' : List Sl) : Prop :=
  ∀ B S0 S σ H F, Kn K B S0 S σ H F G → ∀ Q : VK, (∀ v S' H', Same S S' → Kn K B S0 S' σ H' F G' → Rdl K S' σ G' v xs → Q v H') → te σ H Q
def Rdd [Py α] (K : Fg) (S : Hp) (σ : St) (G : List Sl) (v : V) (xs : Dct α) : Prop := Py.rep K S v xs ∨ ∃ i : Nat, σ[i]? = some (some v) ∧ G[i]? = some (Sl.ow xs)
def EvD [Py α] (K : Fg) (te : TE) (G : List Sl) (xs : Dct α) (G' : List Sl) : Prop :=
  ∀ B S0 S σ H F, Kn K B S0 S σ H F G → ∀ Q : VK, (∀ v S' H', Same S S' → Kn K B S0 S' σ H' F G' → Rdd K S' σ G' v xs → Q v H') → te σ H Q
def EvLs [Py α] (K : Fg) (ta : TA) (G : List Sl) (xs : List α) (G' : List Sl) : Prop :=
  ∀ B S0 S σ H F, Kn K B S0 S σ H F G → ∀ Q : List V → Hp → Prop, (∀ vs S' H', Same S S' → Kn K B S0 S' σ H' F G' → RepL K S' vs xs → Q vs H') → ta σ H Q
class PyA (α : Type) where
  rep : Fg → Hp → List V → α → Prop
  mono : ∀ {K : Fg} {H H' : Hp} {vs : List V} {x : α}, Same H H' → rep K H vs x → rep K H' vs x
  n : Nat
  len : ∀ {K : Fg} {H : Hp} {vs : List V} {x : α}, rep K H vs x → vs.length = n
instance : PyA Unit := ⟨fun _ _ vs _ => vs = [], fun _ h => h, 0, fun h => by rw [h]; rfl⟩
instance {β : Type} [Py α] [PyA β] : PyA (α × β) := ⟨fun K S vs x => ∃ v ws, vs = v :: ws ∧ Py.rep K S v x.1 ∧ PyA.rep K S ws x.2, fun e ⟨v, ws, h1, h2, h3⟩ => ⟨v, ws, h1, Py.mono e h2, PyA.mono e h3⟩,
  PyA.n β + 1, fun ⟨v, ws, h1, h2, h3⟩ => by rw [h1, List.length_cons, PyA.len h3]⟩
def EvA [PyA α] (K : Fg) (ta : TA) (G : List Sl) (x : α) (G' : List Sl) : Prop :=
  ∀ B S0 S σ H F, Kn K B S0 S σ H F G → ∀ Q : List V → Hp → Prop, (∀ vs S' H', Same S S' → Kn K B S0 S' σ H' F G' → PyA.rep K S' vs x → Q vs H') → ta σ H Q
end
def EvT (K : Fg) (tt : TT) (G : List Sl) (b : Bool) (G' : List Sl) : Prop :=
  ∀ B S0 S σ H F, Kn K B S0 S σ H F G → ∀ Q : Bool → Hp → Prop, (∀ S' H', Same S S' → Kn K B S0 S' σ H' F G' → Q b H') → tt σ H Q
def At (K : Fg) (B S0 : Hp) (P : St → Hp → Prop) (G : List Sl) : Prop := ∀ S σ H F, Kn K B S0 S σ H F G → P σ H
def RT {α : Type} [Py α] (K : Fg) (B S0 : Hp) (rt : VK) (x : α) (G : List Sl) : Prop := ∀ S σ H F v, Kn K B S0 S σ H F G → Py.rep K S v x → rt v H
structure Reb (B S0 S1 : Hp) : Prop where
  s : Same S0 S1
  c : ∀ p o, B p = some o → S1 p = S0 p
theorem Reb.refl {B S0 : Hp} : Reb B S0 S0 := ⟨Same.refl _, fun _ _ _ => rfl⟩
theorem Reb.trans {B S0 S1 S2 : Hp} (a : Reb B S0 S1) (b : Reb B S1 S2) : Reb B S0 S2 := ⟨a.s.trans b.s, fun p o e => (b.c p o e).trans (a.c p o e)⟩
section
variable {K : Fg} {B S0 S1 S S' : Hp} {σ : St} {H H' : Hp} {F : Nat → List Addr} {G G' : List Sl}
theorem Kn.unreb (r : Reb B S0 S1) (k : Kn K B S1 S σ H F G) : Kn K B S0 S σ H F G :=
  ⟨r.s.trans k.s0, k.sub, k.keep, fun p o e => (k.clean p o e).trans (r.c p o e), k.off, k.dj, k.len, k.sl⟩
theorem Kn.reb (k : Kn K B S0 S σ H F G) : Kn K B S S σ H F G := ⟨Same.refl _, k.sub, k.keep, fun _ _ _ => rfl, k.off, k.dj, k.len, k.sl⟩
theorem Kn.rebOf (k : Kn K B S0 S σ H F G) : Reb B S0 S := ⟨k.s0, k.clean⟩
theorem At.reb {P : St → Hp → Prop} (r : Reb B S0 S1) (h : At K B S0 P G) : At K B S1 P G := fun S σ H F k => h S σ H F (k.unreb r)
theorem RT.reb {α : Type} [Py α] {rt : VK} {x : α} (r : Reb B S0 S1) (h : RT K B S0 rt x G) : RT K B S1 rt x G := fun S σ H F v k q => h S σ H F v (k.unreb r) q
def Mid (K : Fg) (B S0 : Hp) (P : List Sl → Prop) (σ : St) (H : Hp) : Prop := ∃ S F G, Kn K B S0 S σ H F G ∧ P G
theorem at_mid {P : List Sl → Prop} (h : Le G' G) (p : P G') : At K B S0 (Mid K B S0 P) G := fun S σ H F k => ⟨S, F, G', k.le h, p⟩
theorem at_le {P : St → Hp → Prop} (h : Le G' G) (q : At K B S0 P G') : At K B S0 P G := fun S σ H F k => q S σ H F (k.le h)
theorem at_relL {α : Type} [Py α] {x : List α} {i : Nat} {P : St → Hp → Prop} (h : G[i]? = some (.ow x)) (q : At K B S0 P (G.set i (.im x))) : At K B S0 P G := fun S σ H F k => by
  obtain ⟨S', _, k'⟩ := k.relL h
  exact q S' σ H _ k'
section
variable {α : Type} [Py α]
theorem Rdl.at {v : V} {xs : List α} (h : Rdl K S σ G v xs) (k : Kn K B S0 S σ H F G) : ∃ p vs, v = .ref p ∧ H p = some (.lst vs) ∧ RepL K S vs xs := by
  rcases h with ⟨p, vs, h1, h2, h3⟩ | ⟨i, h1, h2⟩
  · exact ⟨p, vs, h1, k.sub _ _ h2, h3⟩
  · obtain ⟨w, e, p, vs, q1, q2, q3, q4⟩ := k.ow h2
    rw [h1] at e
    cases e
    exact ⟨p, vs, q1, q3, q4⟩
theorem Rdl.mono {v : V} {xs : List α} (e : Same S S') (h : Rdl K S σ G v xs) : Rdl K S' σ G v xs := h.elim (fun h => .inl (Py.mono e h)) .inr
theorem Rdd.at {v : V} {xs : Dct α} (h : Rdd K S σ G v xs) (k : Kn K B S0 S σ H F G) : ∃ p kvs, v = .ref p ∧ H p = some (.dK kvs) ∧ RepD K S kvs xs.l := by
  rcases h with ⟨p, vs, h1, h2, h3⟩ | ⟨i, h1, h2⟩
  · exact ⟨p, vs, h1, k.sub _ _ h2, h3⟩
  · obtain ⟨w, e, p, vs, q1, q2, q3, q4⟩ := k.ow h2
    rw [h1] at e
    cases e
    exact ⟨p, vs, q1, q3, q4⟩
theorem Rdd.mono {v : V} {xs : Dct α} (e : Same S S') (h : Rdd K S σ G v xs) : Rdd K S' σ G v xs := h.elim (fun h => .inl (Py.mono e h)) .inr
end
section
variable {α β γ : Type} [Py α] [Py β] [Py γ] {G1 G2 G3 : List Sl} {ta tb tc te : TE} {x : α} {y : β} {z : γ} {i j : Nat}
theorem ev_var (h : G[i]? = some (.im x)) : EvX K (tVar i) G x G := fun B S0 S σ H F k Q q => by
  obtain ⟨v, h1, h2⟩ := k.im h
  exact ⟨v, h1, q v S H (Same.refl _) k h2⟩
theorem ev_int {n : Int} : EvX K (tC (.int n)) G n G := fun B S0 S σ H F k Q q => q _ S H (Same.refl _) k rfl
theorem ev_bl {n : Bool} : EvX K (tC (.bl n)) G n G := fun B S0 S σ H F k Q q => q _ S H (Same.refl _) k rfl
theorem ev_str {n : Str} : EvX K (tC (.str n)) G n G := fun B S0 S σ H F k Q q => q _ S H (Same.refl _) k rfl
theorem ev_none : EvX K (tC .non) G (none : Option α) G := fun B S0 S σ H F k Q q => q _ S H (Same.refl _) k rfl
theorem EvX.some (h : EvX K te G x G1) : EvX K te G (some x) G1 := fun B S0 S σ H F k Q q => h B S0 S σ H F k Q fun v S' H' e k' r => q v S' H' e k' r
theorem EvX.inl (h : EvX K te G x G1) : EvX K te G (Sum.inl x : Sum α β) G1 := fun B S0 S σ H F k Q q => h B S0 S σ H F k Q fun v S' H' e k' r => q v S' H' e k' r
theorem EvX.inr (h : EvX K te G y G1) : EvX K te G (Sum.inr y : Sum α β) G1 := fun B S0 S σ H F k Q q => h B S0 S σ H F k Q fun v S' H' e k' r => q v S' H' e k' r
theorem EvX.c {xs : List α} (h : EvX K te G xs G1) : EvC K te G xs G1 := fun B S0 S σ H F k Q q => h B S0 S σ H F k Q fun v S' H' e k' r => q v S' H' e k' (.inl r)
theorem EvX.d {xs : Dct α} (h : EvX K te G xs G1) : EvD K te G xs G1 := fun B S0 S σ H F k Q q => h B S0 S σ H F k Q fun v S' H' e k' r => q v S' H' e k' (.inl r)
theorem ec_own {xs : List α} (h : G[i]? = some (.ow xs)) : EvC K (tVar i) G xs G := fun B S0 S σ H F k Q q => by
  obtain ⟨v, h1, h2⟩ := k.ow h
  exact ⟨v, h1, q v S H (Same.refl _) k (.inr ⟨i, h1, h⟩)⟩
theorem ed_own {xs : Dct α} (h : G[i]? = some (.ow xs)) : EvD K (tVar i) G xs G := fun B S0 S σ H F k Q q => by
  obtain ⟨v, h1, h2⟩ := k.ow h
  exact ⟨v, h1, q v S H (Same.refl _) k (.inr ⟨i, h1, h⟩)⟩
theorem EvL.ev {xs : List α} (h : EvL K te G xs G1) : EvX K te G xs G1 := fun B S0 S σ H F k Q q => h B S0 S σ H F k Q fun p vs S' H' e k' hs hb hf hp r =>
  q _ (upd S' p (.lst vs)) H' (e.trans (same_new hs)) (k'.settle hp hs hb hf) ⟨p, vs, rfl, upd_same, r.mono (same_new hs)⟩
theorem EvL.c {xs : List α} (h : EvL K te G xs G1) : EvC K te G xs G1 := h.ev.c
theorem ev_i0 {f : Int → Int → Int} {a b : Int} (ha : EvX K ta G a G1) (hb : EvX K tb G1 b G2) : EvX K (tOp (rI0 fun i j => .int (f i j)) ta tb) G (f a b) G2 := fun B S0 S σ H F k Q q =>
  ha B S0 S σ H F k _ fun v S1 H1 e1 k1 r1 => hb B S0 S1 σ H1 F k1 _ fun u S2 H2 e2 k2 r2 => ⟨a, b, r1, r2, q _ S2 H2 (e1.trans e2) k2 rfl⟩
theorem ev_iC {C : Int → Int → Prop} {f : Int → Int → Int} {a b : Int} (ha : EvX K ta G a G1) (hb : EvX K tb G1 b G2) (hc : C a b) : EvX K (tOp (rI C fun i j => .int (f i j)) ta tb) G (f a b) G2 := fun B S0 S σ H F k Q q =>
  ha B S0 S σ H F k _ fun v S1 H1 e1 k1 r1 => hb B S0 S1 σ H1 F k1 _ fun u S2 H2 e2 k2 r2 => ⟨a, b, r1, r2, hc, q _ S2 H2 (e1.trans e2) k2 rfl⟩
theorem ev_b0 {f : Int → Int → Bool} {a b : Int} (ha : EvX K ta G a G1) (hb : EvX K tb G1 b G2) : EvX K (tOp (rI0 fun i j => .bl (f i j)) ta tb) G (f a b) G2 := fun B S0 S σ H F k Q q =>
  ha B S0 S σ H F k _ fun v S1 H1 e1 k1 r1 => hb B S0 S1 σ H1 F k1 _ fun u S2 H2 e2 k2 r2 => ⟨a, b, r1, r2, q _ S2 H2 (e1.trans e2) k2 rfl⟩
theorem ev_neg {a : Int} (ha : EvX K ta G a G1) : EvX K (tUn (rU fun i => .int (-i)) ta) G (-a) G1 := fun B S0 S σ H F k Q q =>
  ha B S0 S σ H F k _ fun v S1 H1 e1 k1 r1 => ⟨a, r1, q _ S1 H1 e1 k1 rfl⟩
class Sc (α : Type) [Py α] where
  val : α → V
  of : ∀ {K : Fg} {S : Hp} {v : V} {x : α}, Py.rep K S v x → v = val x
  inj : ∀ {x y : α}, val x = val y → x = y
  sc : ∀ x y : α, scal (val x) (val y) = true
instance : Sc Int := ⟨V.int, fun h => h, fun h => V.int.inj h, fun _ _ => rfl⟩
instance : Sc Bool := ⟨V.bl, fun h => h, fun h => V.bl.inj h, fun _ _ => rfl⟩
instance : Sc Str := ⟨V.str, fun h => h, fun h => V.str.inj h, fun _ _ => rfl⟩
theorem Sc.dec {δ : Type} [Py δ] [Sc δ] [DecidableEq δ] (x y : δ) : decide (Sc.val x = Sc.val y) = decide (x = y) := by
  by_cases e : x = y
  · rw [e, decide_eq_true rfl, decide_eq_true rfl]
  · rw [decide_eq_false e, decide_eq_false fun q => e (Sc.inj q)]
theorem ev_eq {δ : Type} [Py δ] [Sc δ] [DecidableEq δ] {a b : δ} (ha : EvX K ta G a G1) (hb : EvX K tb G1 b G2) : EvX K (tOp rEq ta tb) G (decide (a = b)) G2 := fun B S0 S σ H F k Q q =>
  ha B S0 S σ H F k _ fun v S1 H1 e1 k1 r1 => hb B S0 S1 σ H1 F k1 _ fun u S2 H2 e2 k2 r2 => by
    rw [Sc.of r1, Sc.of r2]
    exact ⟨Sc.sc a b, q _ S2 H2 (e1.trans e2) k2 (by rw [Sc.dec]; rfl)⟩
theorem ev_ne {δ : Type} [Py δ] [Sc δ] [DecidableEq δ] {a b : δ} (ha : EvX K ta G a G1) (hb : EvX K tb G1 b G2) : EvX K (tOp rNe ta tb) G (!decide (a = b)) G2 := fun B S0 S σ H F k Q q =>
  ha B S0 S σ H F k _ fun v S1 H1 e1 k1 r1 => hb B S0 S1 σ H1 F k1 _ fun u S2 H2 e2 k2 r2 => by
    rw [Sc.of r1, Sc.of r2]
    exact ⟨Sc.sc a b, q _ S2 H2 (e1.trans e2) k2 (by rw [Sc.dec]; rfl)⟩
section
variable {t u : TT} {b c : Bool}
theorem et_test (h : EvX K te G b G1) : EvT K (tTest te) G b G1 := fun B S0 S σ H F k Q q => h B S0 S σ H F k _ fun v S1 H1 e1 k1 r1 => ⟨b, r1, q S1 H1 e1 k1⟩
theorem et_B (h : EvX K te G b G1) : EvT K (tB te) G b G1 := fun B S0 S σ H F k Q q => h B S0 S σ H F k _ fun v S1 H1 e1 k1 r1 => ⟨b, r1, q S1 H1 e1 k1⟩
theorem et_and (h1 : EvT K t G b G) (h2 : b = true → EvT K u G c G) : EvT K (tAnd t u) G (b && c) G := fun B S0 S σ H F k Q q => h1 B S0 S σ H F k _ fun S1 H1 e1 k1 => by
  cases b with
  | true =>
    show u σ H1 Q
    exact h2 rfl B S0 S1 σ H1 F k1 Q fun S2 H2 e2 k2 => q S2 H2 (e1.trans e2) k2
  | false =>
    show Q false H1
    exact q S1 H1 e1 k1
theorem et_or (h1 : EvT K t G b G) (h2 : b = false → EvT K u G c G) : EvT K (tOr t u) G (b || c) G := fun B S0 S σ H F k Q q => h1 B S0 S σ H F k _ fun S1 H1 e1 k1 => by
  cases b with
  | true =>
    show Q true H1
    exact q S1 H1 e1 k1
  | false =>
    show u σ H1 Q
    exact h2 rfl B S0 S1 σ H1 F k1 Q fun S2 H2 e2 k2 => q S2 H2 (e1.trans e2) k2
theorem et_not (h1 : EvT K t G b G1) : EvT K (tNot t) G (!b) G1 := fun B S0 S σ H F k Q q => h1 B S0 S σ H F k _ fun S1 H1 e1 k1 => q S1 H1 e1 k1
theorem et_yes : EvT K tYes G true G := fun B S0 S σ H F k Q q => q S H (Same.refl _) k
theorem ev_if {x' : α} (h : EvT K t G b G1) (h1 : b = true → EvX K ta G1 x G2) (h2 : b = false → EvX K tb G1 x' G2) : EvX K (tIf t ta tb) G (if b = true then x else x') G2 := fun B S0 S σ H F k Q q => h B S0 S σ H F k _ fun S1 H1 e1 k1 => by
  cases b with
  | true =>
    show ta σ H1 Q
    exact h1 rfl B S0 S1 σ H1 F k1 Q fun w S2 H2 e2 k2 r2 => q w S2 H2 (e1.trans e2) k2 r2
  | false =>
    show tb σ H1 Q
    exact h2 rfl B S0 S1 σ H1 F k1 Q fun w S2 H2 e2 k2 r2 => q w S2 H2 (e1.trans e2) k2 r2
end
theorem els_nil : EvLs K tNil G ([] : List α) G := fun B S0 S σ H F k Q q => q [] S H (Same.refl _) k True.intro
theorem els_cons {tr : TA} {xs : List α} (h : EvX K ta G x G1) (hr : EvLs K tr G1 xs G2) : EvLs K (tCons ta tr) G (x :: xs) G2 := fun B S0 S σ H F k Q q =>
  h B S0 S σ H F k _ fun v S1 H1 e1 k1 r1 => hr B S0 S1 σ H1 F k1 _ fun vs S2 H2 e2 k2 r2 => q (v :: vs) S2 H2 (e1.trans e2) k2 ⟨Py.mono e2 r1, r2⟩
theorem ea_nil : EvA K tNil G () G := fun B S0 S σ H F k Q q => q [] S H (Same.refl _) k rfl
theorem ea_cons {δ : Type} [PyA δ] {tr : TA} {xs : δ} (h : EvX K ta G x G1) (hr : EvA K tr G1 xs G2) : EvA K (tCons ta tr) G (x, xs) G2 := fun B S0 S σ H F k Q q =>
  h B S0 S σ H F k _ fun v S1 H1 e1 k1 r1 => hr B S0 S1 σ H1 F k1 _ fun vs S2 H2 e2 k2 r2 => q (v :: vs) S2 H2 (e1.trans e2) k2 ⟨v, vs, rfl, Py.mono e2 r1, r2⟩
theorem el_lst {t : TA} {xs : List α} (h : EvLs K t G xs G1) (hl : xs.length ≤ 1000) : EvL K (tLst t) G xs G1 := fun B S0 S σ H F k Q q =>
  h B S0 S σ H F k _ fun vs S1 H1 e1 k1 r1 => ⟨by rw [r1.len]; exact Nat.le_trans hl (by decide), fun p hp => by
    obtain ⟨a, b, c⟩ := k1.free hp
    exact q p vs S1 _ e1 (k1.raw hp) a b c upd_same r1⟩
theorem ev_tp {t : TA} {xs : List α} (h : EvLs K t G xs G1) (hl : xs.length ≤ 1000) : EvX K (tTup t) G (Tp.mk xs) G1 := fun B S0 S σ H F k Q q =>
  h B S0 S σ H F k _ fun vs S1 H1 e1 k1 r1 => ⟨by rw [r1.len]; exact Nat.le_trans hl (by decide), fun p hp =>
    q (.ref p) _ _ (e1.trans (same_new (k1.free hp).1)) (k1.new hp) ⟨p, vs, rfl, SqT.of upd_same, r1.mono (same_new (k1.free hp).1)⟩⟩
theorem ev_pair (ha : EvX K ta G x G1) (hb : EvX K tb G1 y G2) : EvX K (tTup (tCons ta (tCons tb tNil))) G (x, y) G2 := fun B S0 S σ H F k Q q =>
  ha B S0 S σ H F k _ fun v S1 H1 e1 k1 r1 => hb B S0 S1 σ H1 F k1 _ fun u S2 H2 e2 k2 r2 => ⟨by show 2 ≤ sizeLine; decide, fun p hp => by
    have e3 := same_new (o := .tup [v, u]) (k2.free hp).1
    exact q (.ref p) _ _ ((e1.trans e2).trans e3) (k2.new hp) ⟨p, v, u, rfl, SqT.of upd_same, Py.mono (e2.trans e3) r1, Py.mono e3 r2⟩⟩
theorem ev_t3 (ha : EvX K ta G x G1) (hb : EvX K tb G1 y G2) (hc : EvX K tc G2 z G3) : EvX K (tTup (tCons ta (tCons tb (tCons tc tNil)))) G (T3.mk x y z) G3 := fun B S0 S σ H F k Q q =>
  ha B S0 S σ H F k _ fun v S1 H1 e1 k1 r1 => hb B S0 S1 σ H1 F k1 _ fun u S2 H2 e2 k2 r2 => hc B S0 S2 σ H2 F k2 _ fun w S3 H3 e3 k3 r3 => ⟨by show 3 ≤ sizeLine; decide, fun p hp => by
    have e4 := same_new (o := .tup [v, u, w]) (k3.free hp).1
    exact q (.ref p) _ _ (((e1.trans e2).trans e3).trans e4) (k3.new hp) ⟨p, v, u, w, rfl, SqT.of upd_same, Py.mono ((e2.trans e3).trans e4) r1, Py.mono (e3.trans e4) r2, Py.mono e4 r3⟩⟩
def ix {δ : Type} [Inhabited δ] (xs : List δ) (i : Int) : δ := xs.getD i.toNat default
theorem ix_at {δ : Type} [Inhabited δ] {xs : List δ} {i : Int} (h0 : 0 ≤ i) (h1 : i < xs.length) : xs[i.toNat]? = some (ix xs i) := by
  unfold ix
  rw [List.getD_eq_getElem?_getD]
  rw [List.getElem?_eq_getElem (by omega)]
  rfl
theorem atI_of {vs : List V} {i : Int} {v : V} (h0 : 0 ≤ i) (h : vs[i.toNat]? = some v) : atI vs i = some v := by
  have e : i = ((i.toNat : Nat) : Int) := by omega
  rw [e]
  exact atI_nat h
theorem ev_ix [Inhabited α] {xs : List α} {n : Int} (ha : EvX K ta G xs G1) (hb : EvX K tb G1 n G2) (h : 0 ≤ n ∧ n < xs.length) : EvX K (tOp (rIxL K) ta tb) G (ix xs n) G2 := fun B S0 S σ H F k Q q =>
  ha B S0 S σ H F k _ fun v S1 H1 e1 k1 r1 => hb B S0 S1 σ H1 F k1 _ fun u S2 H2 e2 k2 r2 => by
    obtain ⟨p, vs, rfl, hp, hr⟩ := Py.mono e2 r1
    obtain ⟨w, h1, h2⟩ := hr.get (ix_at h.1 h.2)
    exact ⟨p, vs, n, w, rfl, r2, SqL.of (k2.sub _ _ hp), atI_of h.1 h1, q w S2 H2 (e1.trans e2) k2 h2⟩
theorem ev_ixT [Inhabited α] {xs : Tp α} {n : Int} (ha : EvX K ta G xs G1) (hb : EvX K tb G1 n G2) (h : 0 ≤ n ∧ n < xs.l.length) : EvX K (tOp (rIxT K) ta tb) G (ix xs.l n) G2 := fun B S0 S σ H F k Q q =>
  ha B S0 S σ H F k _ fun v S1 H1 e1 k1 r1 => hb B S0 S1 σ H1 F k1 _ fun u S2 H2 e2 k2 r2 => by
    obtain ⟨p, vs, rfl, hp, hr⟩ := Py.mono e2 r1
    obtain ⟨w, h1, h2⟩ := hr.get (ix_at h.1 h.2)
    exact ⟨p, vs, n, w, rfl, r2, seqT k2.sub hp, atI_of h.1 h1, q w S2 H2 (e1.trans e2) k2 h2⟩
theorem ev_fst {xy : α × β} (ha : EvX K ta G xy G1) : EvX K (tOp (rIxT K) ta (tC (.int 0))) G xy.1 G1 := fun B S0 S σ H F k Q q =>
  ha B S0 S σ H F k _ fun v S1 H1 e1 k1 r1 => by
    obtain ⟨p, a, b, rfl, hp, h1, h2⟩ := r1
    exact ⟨p, _, 0, a, rfl, rfl, seqT k1.sub hp, atI_nat (j := 0) rfl, q a S1 H1 e1 k1 h1⟩
theorem ev_snd {xy : α × β} (ha : EvX K ta G xy G1) : EvX K (tOp (rIxT K) ta (tC (.int 1))) G xy.2 G1 := fun B S0 S σ H F k Q q =>
  ha B S0 S σ H F k _ fun v S1 H1 e1 k1 r1 => by
    obtain ⟨p, a, b, rfl, hp, h1, h2⟩ := r1
    exact ⟨p, _, 1, b, rfl, rfl, seqT k1.sub hp, atI_nat (j := 1) rfl, q b S1 H1 e1 k1 h2⟩
theorem ev_3a {w : T3 α β γ} (ha : EvX K ta G w G1) : EvX K (tOp (rIxT K) ta (tC (.int 0))) G w.a G1 := fun B S0 S σ H F k Q q =>
  ha B S0 S σ H F k _ fun v S1 H1 e1 k1 r1 => by
    obtain ⟨p, a, b, c, rfl, hp, h1, h2, h3⟩ := r1
    exact ⟨p, _, 0, a, rfl, rfl, seqT k1.sub hp, atI_nat (j := 0) rfl, q a S1 H1 e1 k1 h1⟩
theorem ev_3b {w : T3 α β γ} (ha : EvX K ta G w G1) : EvX K (tOp (rIxT K) ta (tC (.int 1))) G w.b G1 := fun B S0 S σ H F k Q q =>
  ha B S0 S σ H F k _ fun v S1 H1 e1 k1 r1 => by
    obtain ⟨p, a, b, c, rfl, hp, h1, h2, h3⟩ := r1
    exact ⟨p, _, 1, b, rfl, rfl, seqT k1.sub hp, atI_nat (j := 1) rfl, q b S1 H1 e1 k1 h2⟩
theorem ev_3c {w : T3 α β γ} (ha : EvX K ta G w G1) : EvX K (tOp (rIxT K) ta (tC (.int 2))) G w.c G1 := fun B S0 S σ H F k Q q =>
  ha B S0 S σ H F k _ fun v S1 H1 e1 k1 r1 => by
    obtain ⟨p, a, b, c, rfl, hp, h1, h2, h3⟩ := r1
    exact ⟨p, _, 2, c, rfl, rfl, seqT k1.sub hp, atI_nat (j := 2) rfl, q c S1 H1 e1 k1 h3⟩
def rLenS (K : Fg) : List V → Hp → VK → Prop := fun xs H Q => ∃ p ys, xs = [.ref p] ∧ (SqL K H p ys ∨ SqT K H p ys) ∧ Q (.int ys.length) H
theorem call_lenG {X : Cx} : CallR X (.builtin "len") (rLenS X.K) := call_len_seq
theorem ev_len {xs : List α} (ha : EvC K ta G xs G1) : EvX K (tCB (rLenS K) (tCons ta tNil)) G (xs.length : Int) G1 := fun B S0 S σ H F k Q q =>
  ha B S0 S σ H F k _ fun v S1 H1 e1 k1 r1 => by
    obtain ⟨p, vs, rfl, hp, hr⟩ := r1.at k1
    exact ⟨p, vs, rfl, .inl (SqL.of hp), q _ S1 H1 e1 k1 (by rw [hr.len]; rfl)⟩
theorem ev_lenT {xs : Tp α} (ha : EvX K ta G xs G1) : EvX K (tCB (rLenS K) (tCons ta tNil)) G (xs.l.length : Int) G1 := fun B S0 S σ H F k Q q =>
  ha B S0 S σ H F k _ fun v S1 H1 e1 k1 r1 => by
    obtain ⟨p, vs, rfl, hp, hr⟩ := r1
    exact ⟨p, vs, rfl, .inr (seqT k1.sub hp), q _ S1 H1 e1 k1 (by rw [hr.len]; rfl)⟩
def rMin2 : List V → Hp → VK → Prop := fun xs H Q => ∃ i j, xs = [.int i, .int j] ∧ Q (.int (if j < i then j else i)) H
def rMax2 : List V → Hp → VK → Prop := fun xs H Q => ∃ i j, xs = [.int i, .int j] ∧ Q (.int (if j > i then j else i)) H
def rInt1 : List V → Hp → VK → Prop := fun xs H Q => (∃ i, xs = [.int i] ∧ Q (.int i) H) ∨ ∃ k, xs = [.bl k] ∧ Q (.int (if k then 1 else 0)) H
theorem call_intG {X : Cx} : CallR X (.type "int") rInt1 := call_int1
theorem ev_intB {b : Bool} (ha : EvX K ta G b G1) : EvX K (tCB rInt1 (tCons ta tNil)) G (if b then (1 : Int) else 0) G1 := fun B S0 S σ H F k Q q =>
  ha B S0 S σ H F k _ fun v S1 H1 e1 k1 r1 => .inr ⟨b, by rw [show v = .bl b from r1], q _ S1 H1 e1 k1 rfl⟩
theorem el_dnew : ∀ {B S0 S : Hp} {σ : St} {H : Hp} {F : Nat → List Addr} {Q : VK}, Kn K B S0 S σ H F G → (∀ p H', Kn K B S0 S σ H' F G → S p = none → B p = none → (∀ j, p ∉ F j) → H' p = some (.dK []) → Q (.ref p) H') → tDNewK σ H Q := fun k q p hp => by
  obtain ⟨a, b, c⟩ := k.free hp
  exact q p _ (k.raw hp) a b c upd_same
theorem RepD.get {δ : Type} [Py δ] {K : Fg} {S : Hp} {kvs : List (Key × V)} {d : Dct δ} {k : Int} (h : RepD K S kvs d.l) : (∀ x, d.get? k = some x → ∃ v, valV kvs (Sum.inl k) = some v ∧ Py.rep K S v x) ∧ (d.get? k = none → valV kvs (Sum.inl k) = none) := by
  have q := h.val k
  unfold Dct.get?
  constructor
  · intro x e
    rw [e] at q
    exact q
  · intro e
    rw [e] at q
    exact q
theorem RepD.isSome {δ : Type} [Py δ] {K : Fg} {S : Hp} {kvs : List (Key × V)} {d : Dct δ} (k : Int) (h : RepD K S kvs d.l) : (valV kvs (Sum.inl k)).isSome = (d.get? k).isSome := by
  obtain ⟨h1, h2⟩ := h.get (k := k)
  cases e : d.get? k with
  | none => rw [h2 e]; rfl
  | some x =>
    obtain ⟨v, h3, _⟩ := h1 x e
    rw [h3]
    rfl
theorem dgetI {H : Hp} {a : Addr} {kvs : List (Key × V)} {k : Int} (e : H a = some (.dK kvs)) : DGet H a (.int k) (valV kvs (Sum.inl k)) := DGet.k (k := Sum.inl k) e
theorem ev_dnotin {d : Dct α} {n : Int} (hk : EvX K ta G n G1) (hd : EvD K tb G1 d G2) : EvX K (tDNotIn ta tb) G (!(d.get? n).isSome) G2 := fun B S0 S σ H F k Q q =>
  hk B S0 S σ H F k _ fun v S1 H1 e1 k1 r1 => hd B S0 S1 σ H1 F k1 _ fun u S2 H2 e2 k2 r2 => by
    obtain ⟨p, kvs, rfl, hp, hr⟩ := r2.at k2
    rw [show v = .int n from r1]
    exact ⟨p, _, rfl, dgetI hp, q _ S2 H2 (e1.trans e2) k2 (by rw [hr.isSome]; rfl)⟩
def dix {δ : Type} [Inhabited δ] (d : Dct δ) (k : Int) : δ := (d.get? k).getD default
end
def spF {α β : Type} [PyA α] [Py β] (K : Fg) (f : α → β) (pre : α → Prop) : Sp := fun vs H Q _ => ∃ (S : Hp) (a : α), Same S H ∧ PyA.rep K S vs a ∧ pre a ∧ ∀ v S' H', Grow S H S' H' → Py.rep K S' v (f a) → Q v H'
def spL {α β : Type} [PyA α] [Py β] (K : Fg) (f : α → List β) (pre : α → Prop) : Sp := fun vs H Q _ => ∃ (S : Hp) (a : α), Same S H ∧ PyA.rep K S vs a ∧ pre a ∧
  ∀ p us S' H', Grow S H S' H' → H p = none → S' p = none → H' p = some (.lst us) → RepL K S' us (f a) → Q (.ref p) H'
section
variable {α β : Type} [PyA α] [Py β] {G1 : List Sl} {f : α → β} {pre : α → Prop} {a : α} {t : TA} {E : XK}
theorem ev_call (ha : EvA K t G a G1) (hp : pre a) : EvX K (tCall (spF K f pre) [] E t) G (f a) G1 := fun B S0 S σ H F k Q q =>
  ha B S0 S σ H F k _ fun vs S1 H1 e1 k1 r1 => by
    rw [List.append_nil]
    exact ⟨S1, a, k1.sub, r1, hp, fun v S2 H2 g r2 => q v S2 H2 (e1.trans g.s) (k1.grow g) r2⟩
end
end
end GL
namespace GL
open PySem L2
theorem wipe_get (σ : St) : ∀ (vs : List Nat) (k : Nat), (wipe σ vs)[k]? = if k ∈ vs ∧ k < σ.length then some none else σ[k]?
  | [], k => by simp [wipe]
  | v :: vs, k => by
    unfold wipe
    have ih := wipe_get σ vs k
    have hl := wipe_length σ vs
    by_cases e : v = k
    · subst e
      by_cases h : v < σ.length
      · rw [List.getElem?_set_self (by rw [hl]; exact h), if_pos ⟨List.mem_cons_self, h⟩]
      · rw [List.getElem?_eq_none (by rw [List.length_set, hl]; omega), if_neg (fun q => h q.2), List.getElem?_eq_none (by omega)]
    · rw [List.getElem?_set_ne e, ih]
      have : (k ∈ v :: vs) ↔ k ∈ vs := by
        simp only [List.mem_cons]
        exact ⟨fun q => q.resolve_left fun z => e z.symm, .inr⟩
      simp only [this]
theorem wipe_set {σ : St} {vs : List Nat} {j : Nat} {y : Option V} (h : j ∈ vs) : wipe (σ.set j y) vs = wipe σ vs := by
  apply List.ext_getElem?
  intro k
  rw [wipe_get, wipe_get, List.length_set]
  by_cases e : k ∈ vs ∧ k < σ.length
  · rw [if_pos e, if_pos e]
  · rw [if_neg e, if_neg e]
    by_cases ej : j = k
    · subst ej
      have : ¬ j < σ.length := fun q => e ⟨h, q⟩
      rw [List.getElem?_eq_none (by rw [List.length_set]; omega), List.getElem?_eq_none (by omega)]
    · rw [List.getElem?_set_ne ej]
def wipeG (G : List Sl) : List Nat → List Sl
  | [] => G
  | v :: vs => (wipeG G vs).set v .no
section
variable {K : Fg} {B S0 S1 S S' : Hp} {σ : St} {H H' : Hp} {F : Nat → List Addr} {G G' : List Sl}
theorem Kn.wipe (k : Kn K B S0 S σ H F G) : ∀ vs : List Nat, Kn K B S0 S (wipe σ vs) H F (wipeG G vs)
  | [] => k
  | v :: vs => (Kn.wipe k vs).setNo
theorem Kn.pin {p : Addr} {o : HO} (k : Kn K B S0 S σ H F G) (h : H p = some o) (hs : S p = none) (hf : ∀ j, p ∉ F j) : Kn K (upd B p o) S0 S σ H F G := by
  refine ⟨k.s0, k.sub, fun b x q => ?_, fun b x q => ?_, fun i b hb => ?_, k.dj, k.len, k.sl⟩
  · by_cases e : b = p
    · subst e
      rw [upd_same] at q
      rw [h, q]
    · rw [upd_ne e] at q
      exact k.keep b x q
  · by_cases e : b = p
    · subst e
      rw [hs, k.s0.free hs]
    · rw [upd_ne e] at q
      exact k.clean b x q
  · obtain ⟨h1, h2, h3⟩ := k.off i b hb
    have ne : b ≠ p := fun z => hf i (z ▸ hb)
    exact ⟨h1, by rw [upd_ne ne]; exact h2, h3⟩
theorem Kn.poke {p : Addr} {o : HO} (k : Kn K B S0 S σ H F G) (hs : S p = none) (hb : B p = none) (hf : ∀ j, p ∉ F j) : Kn K B S0 S σ (upd H p o) F G := by
  refine ⟨k.s0, fun b x q => ?_, fun b x q => ?_, k.clean, fun i b hb' => ?_, k.dj, k.len, fun i s q => ?_⟩
  · rw [upd_ne (ne_of_none q hs)]
    exact k.sub b x q
  · rw [upd_ne (ne_of_none q hb)]
    exact k.keep b x q
  · obtain ⟨h1, h2, w, h3⟩ := k.off i b hb'
    have ne : b ≠ p := fun z => hf i (z ▸ hb')
    exact ⟨h1, h2, w, by rw [upd_ne ne]; exact h3⟩
  · have z := k.sl i s q
    cases s with
    | no => exact True.intro
    | im x => exact z
    | ow x =>
      obtain ⟨v, h1, h2⟩ := z
      exact ⟨v, h1, Own.mono (Same.refl _) (fun b hb' => upd_ne fun z => hf i (z ▸ hb')) h2⟩
def TgG {α : Type} [Py α] (K : Fg) (g : TG) (x : α) (G G' : List Sl) (ts : List Nat) : Prop := (∀ j : Nat, j ∉ ts → G'[j]? = G[j]?) ∧
  ∀ B S0 S σ H F v, Kn K B S0 S σ H F G → Py.rep K S v x → ∀ Q : St → Hp → Prop, (∀ σ', Kn K B S0 S σ' H F G' → (∀ j : Nat, j ∉ ts → σ'[j]? = σ[j]?) → (∀ vs : List Nat, (∀ t ∈ ts, t ∈ vs) → L2.wipe σ' vs = L2.wipe σ vs) → Q σ' H) → g v σ H Q
section
variable {α β γ : Type} [Py α] [Py β] [Py γ] {x : α} {y : β} {z : γ} {g1 g2 g3 : TG} {G1 G2 G3 : List Sl} {t1 t2 t3 : List Nat}
theorem ne_of_notIn {j k : Nat} (h : k ∉ [j]) : j ≠ k := fun e => h (List.mem_singleton.mpr e.symm)
theorem tg_name {j : Nat} (hj : G[j]?.isSome = true) : TgG K (gName j) x G (G.set j (.im x)) [j] := ⟨fun k hk => List.getElem?_set_ne (ne_of_notIn hk), fun B S0 S σ H F v k r Q q =>
  q _ (k.set r hj) (fun k hk => List.getElem?_set_ne (ne_of_notIn hk)) fun vs hv => wipe_set (hv j (List.mem_singleton.mpr rfl))⟩
theorem notL {t1 t2 : List Nat} {j : Nat} (h : j ∉ t1 ++ t2) : j ∉ t1 ∧ j ∉ t2 := ⟨fun q => h (List.mem_append_left _ q), fun q => h (List.mem_append_right _ q)⟩
theorem tg_pair {xy : α × β} (h1 : TgG K g1 xy.1 G G1 t1) (h2 : TgG K g2 xy.2 G1 G2 t2) : TgG K (gTup K 2 (gCons g1 (gCons g2 gNil))) xy G G2 (t1 ++ t2) := ⟨fun j hj => (h2.1 j (notL hj).2).trans (h1.1 j (notL hj).1), fun B S0 S σ H F v k r Q q => by
  obtain ⟨p, a, b, rfl, hp, ra, rb⟩ := r
  refine ⟨p, [a, b], rfl, seqT k.sub hp, rfl, a, [b], rfl, h1.2 B S0 S σ H F a k ra _ fun σ1 k1 o1 w1 => ⟨b, [], rfl, h2.2 B S0 S σ1 H F b k1 rb _ fun σ2 k2 o2 w2 => ⟨rfl, q σ2 k2 (fun j hj => (o2 j (notL hj).2).trans (o1 j (notL hj).1)) fun vs hv => ?_⟩⟩⟩
  rw [w2 vs fun t ht => hv t (List.mem_append_right _ ht), w1 vs fun t ht => hv t (List.mem_append_left _ ht)]⟩
end
section
variable {α β γ : Type} [Py α] [Py β] [Py γ] {x : α} {y : β} {G1 G2 : List Sl} {te ta tb : TE} {t u w : TS} {E : Ends} {tt : TT} {b : Bool} {i j : Nat} {g : TG} {ts : List Nat}
theorem q_next (h : At K B S0 E.nx G) : At K B S0 (tNext E) G := h
theorem q_asg (h : EvX K te G x G1) (hg : TgG K g x G1 G2 ts) (k : At K B S0 (u E) G2) : At K B S0 (tSeq (tAsg te g) u E) G := fun S σ H F kn =>
  h B S0 S σ H F kn _ fun v S' H' e kn' r => hg.2 B S0 S' σ H' F v kn' r _ fun σ' k2 _ _ => k S' σ' H' F k2
theorem q_set (h : EvX K te G x G1) (hi : G1[i]?.isSome = true) (k : At K B S0 (u E) (G1.set i (.im x))) : At K B S0 (tSeq (tAsg te (gName i)) u E) G := q_asg h (tg_name hi) k
theorem q_own {xs : List α} (h : EvL K te G xs G1) (hi : G1[i]?.isSome = true) (k : At K B S0 (u E) (G1.set i (.ow xs))) : At K B S0 (tSeq (tAsg te (gName i)) u E) G := fun S σ H F kn =>
  h B S0 S σ H F kn _ fun p vs S' H' e kn' hs hb hf hp r => k S' _ H' _ (kn'.setOwn (v := .ref p) ⟨p, vs, rfl, rfl, hp, r⟩ hi hs hb ⟨_, hp⟩ hf)
theorem q_dnew (α : Type) [Py α] (hi : G[i]?.isSome = true) (k : At K B S0 (u E) (G.set i (.ow (Dct.emp : Dct α)))) : At K B S0 (tSeq (tAsg tDNewK (gName i)) u E) G := fun S σ H F kn =>
  el_dnew (Q := fun x H1 => gName i x σ H1 (u E)) kn fun p H' kn' hs hb hf hp => k S _ H' _ (kn'.setOwn (v := .ref p) ⟨p, [], rfl, rfl, hp, True.intro⟩ hi hs hb ⟨_, hp⟩ hf)
theorem q_ret (h : EvX K te G x G1) (k : RT K B S0 E.rt x G1) : At K B S0 (tSeq (tRet te) u E) G := fun S σ H F kn =>
  h B S0 S σ H F kn _ fun v S' H' e kn' r => k S' σ H' F v kn' r
theorem q_drop (h : EvX K te G x G1) (k : At K B S0 (u E) G1) : At K B S0 (tSeq (tDrop te) u E) G := fun S σ H F kn =>
  h B S0 S σ H F kn _ fun v S' H' e kn' r => k S' σ H' F kn'
theorem q_if (h : EvT K tt G b G1) (h1 : b = true → At K B S0 (t { E with nx := u E }) G1) (h2 : b = false → At K B S0 (w { E with nx := u E }) G1) : At K B S0 (tSeq (tIfS tt t w) u E) G := fun S σ H F kn =>
  h B S0 S σ H F kn _ fun S' H' e kn' => by
    cases b with
    | true => exact h1 rfl S' σ H' F kn'
    | false => exact h2 rfl S' σ H' F kn'
theorem q_cut (P : List Sl → Prop) (h : At K B S0 (t { E with nx := Mid K B S0 P }) G) (k : ∀ G', P G' → At K B S0 (u E) G') : At K B S0 (Evl.tCut t u E) G := fun S σ H F kn =>
  ⟨Mid K B S0 P, h S σ H F kn, fun σ' H' ⟨S', F', G', kn', p⟩ => k G' p S' σ' H' F' kn'⟩
theorem q_cut1 (G' : List Sl) (h : At K B S0 (t { E with nx := Mid K B S0 (· = G') }) G) (k : At K B S0 (u E) G') : At K B S0 (Evl.tCut t u E) G := q_cut _ h fun _ e => by rw [e]; exact k
theorem q_ifc (h : EvT K tt G b G1) (h1 : b = true → At K B S0 (t E) G1) (h2 : b = false → At K B S0 (w E) G1) : At K B S0 (tIfS tt t w E) G := fun S σ H F kn =>
  h B S0 S σ H F kn _ fun S' H' e kn' => by
    cases b with
    | true => exact h1 rfl S' σ H' F kn'
    | false => exact h2 rfl S' σ H' F kn'
theorem own_list {xs : List α} (kn : Kn K B S0 S σ H F G) (h : G[i]? = some (.ow xs)) : ∃ p vs, σ[i]? = some (some (.ref p)) ∧ F i = [p] ∧ H p = some (.lst vs) ∧ RepL K S vs xs := by
  obtain ⟨v, h1, p, vs, rfl, h2, h3, h4⟩ := kn.ow h
  exact ⟨p, vs, h1, h2, h3, h4⟩
theorem own_listUpd {xs : List α} {p : Addr} {vs : List V} (kn : Kn K B S0 S σ H F G) (h1 : σ[i]? = some (some (.ref p))) (h2 : F i = [p]) (r : RepL K S vs xs) : Kn K B S0 S σ (upd H p (.lst vs)) F (G.set i (.ow xs)) := by
  refine kn.mut h1 (fun q hq => upd_ne fun z => hq (by rw [h2, z]; exact List.mem_singleton.mpr rfl)) (fun q hq => ?_) ?_
  · rw [h2] at hq
    cases List.mem_singleton.mp hq
    exact ⟨_, upd_same⟩
  · exact ⟨p, vs, rfl, h2, upd_same, r⟩
theorem own_dict {d : Dct α} (kn : Kn K B S0 S σ H F G) (h : G[i]? = some (.ow d)) : ∃ p kvs, σ[i]? = some (some (.ref p)) ∧ F i = [p] ∧ H p = some (.dK kvs) ∧ RepD K S kvs d.l := by
  obtain ⟨v, h1, p, vs, rfl, h2, h3, h4⟩ := kn.ow h
  exact ⟨p, vs, h1, h2, h3, h4⟩
theorem own_dictUpd {d : Dct α} {p : Addr} {kvs : List (Key × V)} (kn : Kn K B S0 S σ H F G) (h1 : σ[i]? = some (some (.ref p))) (h2 : F i = [p]) (r : RepD K S kvs d.l) : Kn K B S0 S σ (upd H p (.dK kvs)) F (G.set i (.ow d)) := by
  refine kn.mut h1 (fun q hq => upd_ne fun z => hq (by rw [h2, z]; exact List.mem_singleton.mpr rfl)) (fun q hq => ?_) ?_
  · rw [h2] at hq
    cases List.mem_singleton.mp hq
    exact ⟨_, upd_same⟩
  · exact ⟨p, kvs, rfl, h2, upd_same, r⟩
theorem q_app {xs xs' : List α} (hl : G[i]? = some (.ow xs)) (h : EvX K te G x G1) (hl1 : G1[i]? = some (.ow xs')) (hz : xs'.length < sizeLine) (k : At K B S0 (u E) (G1.set i (.ow (xs' ++ [x])))) :
    At K B S0 (tSeq (tDrop (tBM K "list" rAppend (tVar i) (tCons te tNil))) u E) G := fun S σ H F kn => by
  obtain ⟨p, vs, h1, h2, h3, h4⟩ := own_list kn hl
  refine ⟨.ref p, h1, .inl ⟨rfl, _, SqL.of h3⟩, h B S0 S σ H F kn _ fun v S' H' e kn' r => ?_⟩
  obtain ⟨p', vs', h1', h2', h3', h4'⟩ := own_list kn' hl1
  rw [h1] at h1'
  cases h1'
  exact ⟨p, vs', v, rfl, rfl, h3', by rw [h4'.len]; exact hz, k S' σ _ F (own_listUpd kn' h1 h2' (h4'.snoc r))⟩
theorem q_dput {d : Dct α} {n : Int} (h : EvX K te G x G1) (hk : EvX K tb G1 n G2) (hl1 : G1[i]? = some (.ow d)) {d' : Dct α} (hl : G2[i]? = some (.ow d')) (hz : d'.l.length < sizeLine) (k : At K B S0 (u E) (G2.set i (.ow (d'.put n x)))) :
    At K B S0 (tSeq (sDPut (tVar i) tb te) u E) G := fun S σ H F kn =>
  h B S0 S σ H F kn _ fun v S1 H1 e1 k1 r1 => by
    obtain ⟨p, vs, h1, h2, h3, h4⟩ := own_dict k1 hl1
    refine ⟨.ref p, h1, hk B S0 S1 σ H1 F k1 _ fun w S2 H2 e2 k2 r2 => ?_⟩
    obtain ⟨p', vs', h1', h2', h3', h4'⟩ := own_dict k2 hl
    rw [h1] at h1'
    cases h1'
    rw [show w = .int n from r2]
    exact ⟨p, _, rfl, DPut.k (k := Sum.inl n) h3' (by rw [h4'.len]; exact hz), k S2 σ _ F (own_dictUpd k2 h1 h2' (h4'.put n (Py.mono e2 r1)))⟩
end
def Wk {α : Type} [Py α] (K : Fg) (J : It) (S : Hp) (xs : List α) : Prop := ∀ S' H' i, Same S S' → Same S' H' →
  (∀ x, xs[i]? = some x → J.go i H' ∧ ∀ v H'', J.yld i H' v H'' → ∃ S'', Grow S' H' S'' H'' ∧ Py.rep K S'' v x) ∧ (xs.length ≤ i → J.stop i H')
def ItG {α : Type} [Py α] (K : Fg) (wi : TI) (G : List Sl) (xs : List α) (G' : List Sl) : Prop :=
  ∀ B S0 S σ H F, Kn K B S0 S σ H F G → ∀ R : It → Hp → Prop, (∀ J S' H', Same S S' → Kn K B S0 S' σ H' F G' → Wk K J S' xs → R J H') → wi σ H R
def rng (a b : Int) : List Int := (List.range (b - a).toNat).map fun (i : Nat) => a + (i : Int)
def enumI {α : Type} (xs : List α) : List (Int × α) := (xs.zipIdx).map fun p => ((p.2 : Int), p.1)
section
variable {α β : Type} [Py α] [Py β] {G1 G2 : List Sl} {tl ta tb : TE}
theorem wk_list {S : Hp} {p : Addr} {vs : List V} {xs : List α} (hp : S p = some (.lst vs)) (r : RepL K S vs xs) : Wk K (Itl K p) S xs := fun S' H' i e1 e2 => by
  have h1 : SqL K H' p vs := SqL.of (e2 _ _ (e1 _ _ hp))
  refine ⟨fun x hx => ?_, fun hl => ⟨vs, h1, by rw [r.len]; exact hl⟩⟩
  obtain ⟨v, hv, rv⟩ := r.get hx
  refine ⟨⟨vs, v, h1, hv⟩, fun w H'' y => ?_⟩
  obtain ⟨rfl, y⟩ := y
  have e := y vs h1
  rw [hv] at e
  cases e
  exact ⟨S', Grow.refl e2, Py.mono e1 rv⟩
theorem it_list {xs : List α} (h : EvX K tl G xs G1) : ItG K (iList K tl) G xs G1 := fun B S0 S σ H F k R q =>
  h B S0 S σ H F k _ fun v S1 H1 e1 k1 r1 => by
    obtain ⟨p, vs, rfl, hp, hr⟩ := r1
    exact ⟨p, rfl, ⟨vs, SqL.of (k1.sub _ _ hp)⟩, q _ S1 H1 e1 k1 (wk_list hp hr)⟩
theorem wk_tup {S : Hp} {p : Addr} {vs : List V} {xs : List α} (hp : SqT K S p vs) (r : RepL K S vs xs) : Wk K (Itt K p) S xs := fun S' H' i e1 e2 => by
  have h1 : SqT K H' p vs := seqT e2 (seqT e1 hp)
  refine ⟨fun x hx => ?_, fun hl => ⟨vs, h1, by rw [r.len]; exact hl⟩⟩
  obtain ⟨v, hv, rv⟩ := r.get hx
  refine ⟨⟨vs, v, h1, hv⟩, fun w H'' y => ?_⟩
  obtain ⟨rfl, y⟩ := y
  have e := y vs h1
  rw [hv] at e
  cases e
  exact ⟨S', Grow.refl e2, Py.mono e1 rv⟩
theorem it_tup {xs : Tp α} (h : EvX K tl G xs G1) : ItG K (iTup K tl) G xs.l G1 := fun B S0 S σ H F k R q =>
  h B S0 S σ H F k _ fun v S1 H1 e1 k1 r1 => by
    obtain ⟨p, vs, rfl, hp, hr⟩ := r1
    exact ⟨p, rfl, ⟨vs, seqT k1.sub hp⟩, q _ S1 H1 e1 k1 (wk_tup hp hr)⟩
theorem wk_rng {S : Hp} (a : Int) (n : Nat) : Wk K (Itr a n) S ((List.range n).map fun (i : Nat) => a + (i : Int)) := fun S' H' i e1 e2 => by
  refine ⟨fun x hx => ?_, fun hl => by rw [List.length_map, List.length_range] at hl; exact hl⟩
  have hi : i < n := by
    have := (List.getElem?_eq_some_iff.mp hx).1
    rw [List.length_map, List.length_range] at this
    exact this
  rw [List.getElem?_map, List.getElem?_range hi] at hx
  cases hx
  refine ⟨hi, fun w H'' y => ?_⟩
  obtain ⟨rfl, rfl⟩ := y
  exact ⟨S', Grow.refl e2, rfl⟩
theorem it_rng1 {n : Int} (h : EvX K ta G n G1) (hn : -4611686018427387904 ≤ n ∧ n < 4611686018427387904) : ItG K (iRng1 (tCons ta tNil)) G (rng 0 n) G1 := fun B S0 S σ H F k R q =>
  h B S0 S σ H F k _ fun v S1 H1 e1 k1 r1 => ⟨n, by rw [show v = .int n from r1], hn.1, hn.2, q _ S1 H1 e1 k1 (by
    have := wk_rng (K := K) (S := S1) 0 n.toNat
    unfold rng
    rw [Int.sub_zero]
    exact this)⟩
theorem wk_enum {S : Hp} {p : Addr} {vs : List V} {xs : List α} (hp : S p = some (.lst vs)) (r : RepL K S vs xs) : Wk K (Ite K p) S (enumI xs) := fun S' H' i e1 e2 => by
  have h1 : SqL K H' p vs := SqL.of (e2 _ _ (e1 _ _ hp))
  have hlen : (enumI xs).length = xs.length := by unfold enumI; rw [List.length_map, List.length_zipIdx]
  refine ⟨fun x hx => ?_, fun hl => ⟨vs, h1, by rw [r.len, ← hlen]; exact hl⟩⟩
  have hi : i < xs.length := by
    rw [← hlen]
    exact (List.getElem?_eq_some_iff.mp hx).1
  have ex : x = ((i : Int), xs[i]) := by
    unfold enumI at hx
    rw [List.getElem?_map, List.getElem?_zipIdx, List.getElem?_eq_getElem hi] at hx
    simpa using hx.symm
  subst ex
  obtain ⟨v, hv, rv⟩ := r.get (List.getElem?_eq_getElem hi)
  refine ⟨⟨vs, v, h1, hv⟩, fun w H'' y => ?_⟩
  obtain ⟨T, u, rfl, hT, rfl, y⟩ := y
  have e := y vs h1
  rw [hv] at e
  cases e
  have g := Grow.new (o := .tup [.int (i : Nat), v]) e2 hT
  exact ⟨_, g, T, _, v, rfl, SqT.of upd_same, rfl, Py.mono (e1.trans g.s) rv⟩
theorem it_enum {xs : List α} (h : EvX K ta G xs G1) : ItG K (iEnum K (tCons ta tNil)) G (enumI xs) G1 := fun B S0 S σ H F k R q =>
  h B S0 S σ H F k _ fun v S1 H1 e1 k1 r1 => by
    obtain ⟨p, vs, rfl, hp, hr⟩ := r1
    exact ⟨p, vs, rfl, SqL.of (k1.sub _ _ hp), q _ S1 H1 e1 k1 (wk_enum hp hr)⟩
end
section
variable {α : Type} [Py α] {G1 : List Sl} {wi : TI} {g : TG} {tb u : TS} {E : Ends} {xs : List α}
theorem q_for (I : List α → List α → List Sl → Prop) (hi : ItG K wi G xs G1) (h0 : I [] xs G1)
    (hs : ∀ pre x post Gi, pre ++ x :: post = xs → I pre (x :: post) Gi → ∀ S1, Reb B S0 S1 → ∃ G2 ts, TgG K g x Gi G2 ts ∧ At K B S1 (tb { E with nx := Mid K B S1 (I (pre ++ [x]) post), ct := Mid K B S1 (I (pre ++ [x]) post), bk := u E }) G2)
    (hd : ∀ Gi, I xs [] Gi → At K B S0 (u E) Gi) : At K B S0 (tSeq (tFor wi g tb) u E) G := fun S σ H F kn =>
  hi B S0 S σ H F kn _ fun J S1 H1 e1 k1 wk => by
    have rb : Reb B S0 S1 := k1.rebOf
    refine ⟨fun i m σ H => ∃ pre post S F Gi, pre ++ post = xs ∧ pre.length = i ∧ post.length = m ∧ Kn K B S1 S σ H F Gi ∧ I pre post Gi, ⟨xs.length, [], xs, S1, F, G1, rfl, rfl, rfl, k1.reb, h0⟩, ?_⟩
    rintro i m σ' H' ⟨pre, post, S2, F2, Gi, ex, rfl, rfl, k2, p⟩
    cases post with
    | nil =>
      refine .inl ⟨(wk S2 H' pre.length k2.s0 k2.sub).2 (by rw [← ex, List.append_nil]; exact Nat.le_refl _), ?_⟩
      rw [List.append_nil] at ex
      subst ex
      exact hd Gi p S2 σ' H' F2 (k2.unreb rb)
    | cons x post =>
      have hx : xs[pre.length]? = some x := by
        rw [← ex, List.getElem?_append_right (Nat.le_refl _), Nat.sub_self]
        rfl
      obtain ⟨go, yl⟩ := (wk S2 H' pre.length k2.s0 k2.sub).1 x hx
      refine .inr ⟨go, Mid K B S1 (I (pre ++ [x]) post), ?_, ?_⟩
      · rintro σ3 H3 ⟨S3, F3, G3, k3, p3⟩
        exact ⟨post.length, by rw [List.length_cons]; omega, pre ++ [x], post, S3, F3, G3, by rw [← ex, List.append_assoc]; rfl, by rw [List.length_append]; rfl, rfl, k3, p3⟩
      · intro v H3 y
        obtain ⟨S3, gr, r⟩ := yl v H3 y
        obtain ⟨G2, ts, tg, bd⟩ := hs pre x post Gi ex p S1 rb
        exact tg.2 B S1 S3 σ' H3 F2 v (k2.grow gr) r _ fun σ4 k4 _ _ => bd S3 σ4 H3 F2 k4
theorem q_fold {τ : Type} (γ : τ → List Sl) (step : τ → α → τ) (s0 : τ) (hi : ItG K wi G xs G1) (h0 : Le (γ s0) G1)
    (hs : ∀ pre x post, pre ++ x :: post = xs → ∀ S1, Reb B S0 S1 → ∃ G2 ts, TgG K g x (γ (pre.foldl step s0)) G2 ts ∧
      At K B S1 (tb { E with nx := Mid K B S1 (· = γ (step (pre.foldl step s0) x)), ct := Mid K B S1 (· = γ (step (pre.foldl step s0) x)), bk := u E }) G2)
    (hd : At K B S0 (u E) (γ (xs.foldl step s0))) : At K B S0 (tSeq (tFor wi g tb) u E) G := by
  have hi' : ItG K wi G xs (γ s0) := fun B S0 S σ H F k R q => hi B S0 S σ H F k R fun J S' H' e k' w => q J S' H' e (k'.le h0) w
  refine q_for (fun pre post Gi => Gi = γ (pre.foldl step s0)) hi' rfl (fun pre x post Gi ex p S1 rb => ?_) fun Gi p => by rw [p]; exact hd
  subst p
  obtain ⟨G2, ts, tg, bd⟩ := hs pre x post ex S1 rb
  refine ⟨G2, ts, tg, ?_⟩
  have e : ∀ Gi, (Gi = γ ((pre ++ [x]).foldl step s0)) = (Gi = γ (step (pre.foldl step s0) x)) := fun Gi => by rw [List.foldl_append]; rfl
  have e2 : (fun Gi => Gi = γ ((pre ++ [x]).foldl step s0)) = (fun Gi => Gi = γ (step (pre.foldl step s0) x)) := funext e
  show At K B S1 (tb { E with nx := Mid K B S1 (fun Gi => Gi = γ ((pre ++ [x]).foldl step s0)), ct := Mid K B S1 (fun Gi => Gi = γ ((pre ++ [x]).foldl step s0)), bk := u E }) G2
  rw [e2]
  exact bd
end
section
variable {tt : TT} {tb u : TS} {E : Ends}
theorem q_while (I : Nat → List Sl → Prop) (m0 : Nat) (h0 : I m0 G) (hs : ∀ m Gi, I m Gi → ∀ S1, Reb B S0 S1 → ∃ b, EvT K tt Gi b Gi ∧
      (b = true → At K B S1 (tb { E with nx := Mid K B S1 (fun G' => ∃ m', m' < m ∧ I m' G'), ct := Mid K B S1 (fun G' => ∃ m', m' < m ∧ I m' G'), bk := u E }) Gi) ∧ (b = false → At K B S1 (u E) Gi)) :
    At K B S0 (tSeq (tWhile tt tb) u E) G := fun S σ H F kn => by
  refine ⟨fun m σ H => ∃ S F Gi, Kn K B S0 S σ H F Gi ∧ I m Gi, ⟨m0, S, F, G, kn, h0⟩, ?_⟩
  rintro m σ' H' ⟨S1, F1, Gi, k1, p⟩
  obtain ⟨b, ht, h1, h2⟩ := hs m Gi p S0 Reb.refl
  refine ht B S0 S1 σ' H' F1 k1 _ fun S2 H2 e2 k2 => ?_
  cases b with
  | true =>
    refine ⟨Mid K B S0 (fun G' => ∃ m', m' < m ∧ I m' G'), ?_, h1 rfl S2 σ' H2 F1 k2⟩
    rintro σ3 H3 ⟨S3, F3, G3, k3, m', hm, p3⟩
    exact ⟨m', hm, S3, F3, G3, k3, p3⟩
  | false => exact h2 rfl S2 σ' H2 F1 k2
end
def Sl.isOw : Sl → Bool
  | @Sl.ow _ _ _ => true
  | _ => false
theorem wipeG_get (G : List Sl) : ∀ (vs : List Nat) (k : Nat), k ∉ vs → (wipeG G vs)[k]? = G[k]?
  | [], _, _ => rfl
  | v :: vs, k, h => by
    unfold wipeG
    rw [List.getElem?_set_ne fun e => h (by rw [e]; exact List.mem_cons_self)]
    exact wipeG_get G vs k fun q => h (List.mem_cons_of_mem _ q)
theorem wipe_get' {σ : St} {vs : List Nat} {k : Nat} (h : k ∉ vs) : (L2.wipe σ vs)[k]? = σ[k]? := by
  rw [wipe_get, if_neg fun q => h q.1]
section
variable {α β τ : Type} [Py α] [Py β] {G1 : List Sl} {wi : TI} {g : TG} {tt : TT} {te : TE} {vs : List Nat} {xs : List α}
theorem Kn.outer {B1 : Hp} {G2 Gn : List Sl} {σ2 : St} (k : Kn K B S0 S σ H F G) (e : Same S S') (k2 : Kn K B1 S0 S' σ2 H' F G2) (hb : Same B B1) (hσ : ∀ j : Nat, j ∉ vs → σ2[j]? = σ[j]?)
    (hG : ∀ j s, Gn[j]? = some s → (j ∉ vs ∧ G2[j]? = some s) ∨ (s.isOw = false ∧ G[j]? = some s)) (hl : Gn.length = G.length) : Kn K B S0 S' σ H' F Gn := by
  refine ⟨k2.s0, k2.sub, hb.trans k2.keep, fun p o q => k2.clean p o (hb p o q), fun i p hp => ?_, k2.dj, hl.trans k.len, fun j s hj => ?_⟩
  · obtain ⟨h1, h2, h3⟩ := k2.off i p hp
    exact ⟨h1, hb.free h2, h3⟩
  · rcases hG j s hj with ⟨hv, h2⟩ | ⟨ho, h1⟩
    · have z := k2.sl j s h2
      rw [hσ j hv] at z
      exact z
    · have z := k.sl j s h1
      cases s with
      | no => exact True.intro
      | im x =>
        obtain ⟨v, h1, h2⟩ := z
        exact ⟨v, h1, Py.mono e h2⟩
      | ow x => cases ho
theorem el_lcX (γ : τ → List Sl) (s0 : τ) (step : τ → α → τ) (f : τ → α → Bool) (e : τ → α → β) (hi : ItG K wi G xs (γ s0)) (hl : xs.length ≤ 1000000)
    (hs : ∀ pre x post, pre ++ x :: post = xs → ∀ s, s = pre.foldl step s0 → ∃ G2 ts, TgG K g x (wipeG (γ s) vs) G2 ts ∧ (∀ t ∈ ts, t ∈ vs) ∧ ∃ G3 G4, EvT K tt G2 (f s x) G3 ∧ (f s x = true → EvX K te G3 (e s x) G4) ∧ (f s x = false → G4 = G3) ∧
      (∀ j sl, (γ (step s x))[j]? = some sl → (j ∉ vs ∧ G4[j]? = some sl) ∨ (sl.isOw = false ∧ (γ s)[j]? = some sl)) ∧ (γ (step s x)).length = (γ s).length) :
    EvL K (tLc wi g tt te vs) G ((xs.foldl (fun (a : List β × τ) x => (if f a.2 x = true then a.1 ++ [e a.2 x] else a.1, step a.2 x)) ([], s0)).1) (γ (xs.foldl step s0)) := fun B S0 S σ H F kn Q q =>
  hi B S0 S σ H F kn _ fun J S1 H1 e1 k1 wk D hD => by
    obtain ⟨a1, a2, a3⟩ := k1.free hD
    have hsnd : ∀ (l : List α) (a : List β) (s : τ), (l.foldl (fun (a : List β × τ) x => (if f a.2 x = true then a.1 ++ [e a.2 x] else a.1, step a.2 x)) (a, s)).2 = l.foldl step s := by
      intro l
      induction l with
      | nil => intro a s; rfl
      | cons x l ih => intro a s; rw [List.foldl_cons, List.foldl_cons]; exact ih _ _
    refine ⟨fun i m H => ∃ pre post S acc, pre ++ post = xs ∧ pre.length = i ∧ post.length = m ∧ Kn K B S0 S σ H F (γ (pre.foldl step s0)) ∧ Same S1 S ∧ S D = none ∧ H D = some (.lst acc) ∧ acc.length ≤ pre.length ∧ RepL K S acc ((pre.foldl (fun (a : List β × τ) x => (if f a.2 x = true then a.1 ++ [e a.2 x] else a.1, step a.2 x)) ([], s0)).1),
      ⟨xs.length, [], xs, S1, [], rfl, rfl, rfl, k1.raw hD, Same.refl _, a1, upd_same, Nat.le_refl _, True.intro⟩, ?_⟩
    rintro i m H' ⟨pre, post, S2, acc, ex, rfl, rfl, k2, s2, d2, hd2, hacc, r2⟩
    cases post with
    | nil =>
      refine .inl ⟨(wk S2 H' pre.length s2 k2.sub).2 (by rw [← ex, List.append_nil]; exact Nat.le_refl _), ?_⟩
      rw [List.append_nil] at ex
      subst ex
      exact q D acc S2 H' (e1.trans s2) k2 d2 a2 a3 hd2 r2
    | cons x post =>
      have hx : xs[pre.length]? = some x := by
        rw [← ex, List.getElem?_append_right (Nat.le_refl _), Nat.sub_self]
        rfl
      obtain ⟨go, yl⟩ := (wk S2 H' pre.length s2 k2.sub).1 x hx
      have hlen : pre.length < 1000000 := by
        have := congrArg List.length ex
        rw [List.length_append, List.length_cons] at this
        omega
      refine .inr ⟨go, fun H => ∃ S acc, Kn K B S0 S σ H F (γ ((pre ++ [x]).foldl step s0)) ∧ Same S1 S ∧ S D = none ∧ H D = some (.lst acc) ∧ acc.length ≤ (pre ++ [x]).length ∧ RepL K S acc (((pre ++ [x]).foldl (fun (a : List β × τ) x => (if f a.2 x = true then a.1 ++ [e a.2 x] else a.1, step a.2 x)) ([], s0)).1), ?_, ?_⟩
      · rintro H3 ⟨S3, acc3, k3, s3, d3, hd3, ha3, r3⟩
        exact ⟨post.length, by rw [List.length_cons]; omega, pre ++ [x], post, S3, acc3, by rw [← ex, List.append_assoc]; rfl, by rw [List.length_append]; rfl, rfl, k3, s3, d3, hd3, ha3, r3⟩
      · intro v H3 y
        obtain ⟨S3, gr, r⟩ := yl v H3 y
        obtain ⟨G2, ts, tg, hts, G3, G4, ht, he, hn, hG, hlG⟩ := hs pre x post ex _ rfl
        have k3 := k2.grow gr
        have hd3 := gr.h D _ hd2
        have d3 : S3 D = none := (gr.cl D _ hd2).trans d2
        have kp := (k3.wipe vs).pin hd3 d3 a3
        have ef : (pre ++ [x]).foldl step s0 = step (pre.foldl step s0) x := by rw [List.foldl_append]; rfl
        have ea : ((pre ++ [x]).foldl (fun (a : List β × τ) x => (if f a.2 x = true then a.1 ++ [e a.2 x] else a.1, step a.2 x)) ([], s0)).1 =
            if f (pre.foldl step s0) x = true then (pre.foldl (fun (a : List β × τ) x => (if f a.2 x = true then a.1 ++ [e a.2 x] else a.1, step a.2 x)) ([], s0)).1 ++ [e (pre.foldl step s0) x] else (pre.foldl (fun (a : List β × τ) x => (if f a.2 x = true then a.1 ++ [e a.2 x] else a.1, step a.2 x)) ([], s0)).1 := by
          rw [List.foldl_append, List.foldl_cons, List.foldl_nil, hsnd]
        rw [ef, ea]
        refine tg.2 (upd B D (.lst acc)) S0 S3 _ H3 F v kp r _ fun σ4 k4 o4 w4 => ⟨?_, ?_⟩
        · rw [w4 vs hts]
          apply List.ext_getElem?
          intro j
          rw [wipe_get, wipe_get, wipe_length]
          by_cases c : j ∈ vs ∧ j < σ.length
          · rw [if_pos c, if_pos c]
          · rw [if_neg c, if_neg c]
        · have hσ : ∀ j : Nat, j ∉ vs → σ4[j]? = σ[j]? := fun j hj => (o4 j fun q => hj (hts j q)).trans (wipe_get' hj)
          refine ht (upd B D (.lst acc)) S0 S3 σ4 H3 F k4 _ fun S5 H5 e5 k5 => ?_
          cases hf : f (pre.foldl step s0) x with
          | false =>
            have e4 := hn hf
            subst e4
            simp only [Bool.false_eq_true, if_false]
            have hd5 : H5 D = some (.lst acc) := k5.keep _ _ upd_same
            have d5 : S5 D = none := (k5.clean D _ upd_same).trans (k3.s0.free d3)
            exact ⟨S5, acc, Kn.outer k3 e5 k5 (same_new a2) hσ hG hlG, (s2.trans gr.s).trans e5, d5, hd5, by rw [List.length_append]; omega, r2.mono (gr.s.trans e5)⟩
          | true =>
            simp only [if_true]
            refine he hf (upd B D (.lst acc)) S0 S5 σ4 H5 F k5 _ fun v6 S6 H6 e6 k6 r6 => ?_
            have hd6 : H6 D = some (.lst acc) := k6.keep _ _ upd_same
            have d6 : S6 D = none := (k6.clean D _ upd_same).trans (k3.s0.free d3)
            refine ⟨acc, hd6, Nat.lt_of_le_of_lt hacc (Nat.lt_trans hlen (by decide)), S6, acc ++ [v6], (Kn.outer k3 (e5.trans e6) k6 (same_new a2) hσ hG hlG).poke d6 a2 a3, (s2.trans gr.s).trans (e5.trans e6), d6, upd_same, ?_, ?_⟩
            · rw [List.length_append, List.length_append]
              simp only [List.length_singleton]
              omega
            · exact (r2.mono (gr.s.trans (e5.trans e6))).snoc r6
theorem foldl_fm (f : α → Bool) (e : α → β) : ∀ (l : List α) (a : List β), (l.foldl (fun (a : List β × Unit) x => (if f x = true then a.1 ++ [e x] else a.1, ())) (a, ())).1 = a ++ (l.filter f).map e
  | [], a => by simp
  | x :: l, a => by
    rw [List.foldl_cons, foldl_fm f e l, List.filter_cons]
    cases f x with
    | true => simp
    | false => simp
theorem el_lcF (f : α → Bool) (e : α → β) (hi : ItG K wi G xs G1) (hl : xs.length ≤ 1000000) (hw : (vs.all fun j => !((G1[j]?.map Sl.isOw).getD false)) = true)
    (hs : ∀ x, x ∈ xs → ∃ G2 ts, TgG K g x (wipeG G1 vs) G2 ts ∧ (∀ t ∈ ts, t ∈ vs) ∧ EvT K tt G2 (f x) G2 ∧ (f x = true → EvX K te G2 (e x) G2)) :
    EvL K (tLc wi g tt te vs) G ((xs.filter f).map e) G1 := by
  have h := el_lcX (K := K) (wi := wi) (g := g) (tt := tt) (te := te) (vs := vs) (G := G) (fun _ : Unit => G1) () (fun _ _ => ()) (fun _ => f) (fun _ => e) hi hl (fun pre x post ex s _ => by
    obtain ⟨G2, ts, tg, hts, ht, he⟩ := hs x (by rw [← ex]; exact List.mem_append_right _ List.mem_cons_self)
    refine ⟨G2, ts, tg, hts, G2, G2, ht, he, fun _ => rfl, fun j sl hj => ?_, rfl⟩
    by_cases hv : j ∈ vs
    · have := List.all_eq_true.mp hw j hv
      rw [hj] at this
      exact .inr ⟨by simpa using this, hj⟩
    · refine .inl ⟨hv, ?_⟩
      rw [tg.1 j fun q => hv (hts j q), wipeG_get _ _ _ hv]
      exact hj)
  have e1 := foldl_fm f e xs []
  rw [List.nil_append] at e1
  rw [e1] at h
  exact h
end
end
end GL
namespace GL
open PySem PySem.Spec PyProof.Rows L2
class Sls (α : Type) extends PyA α where
  sls : α → List Sl
  ok : ∀ {K : Fg} {S H : Hp} {vs : List V} {x : α}, toPyA.rep K S vs x → (sls x).length = vs.length ∧ ∀ (i : Nat) (s : Sl), (sls x)[i]? = some s → SlOk K S H (vs.map some)[i]? [] s
instance : Sls Unit := ⟨fun _ => [], fun h => ⟨by rw [show _ = [] from h]; rfl, fun i s e => by simp at e⟩⟩
instance {α β : Type} [Py α] [Sls β] : Sls (α × β) := ⟨fun x => .im x.1 :: Sls.sls x.2, fun {K S H vs x} h => by
  obtain ⟨v, ws, rfl, h1, h2⟩ := h
  obtain ⟨l, q⟩ := Sls.ok (H := H) h2
  refine ⟨by rw [List.length_cons, List.length_cons, l], fun i s e => ?_⟩
  cases i with
  | zero =>
    simp only [List.getElem?_cons_zero, Option.some.injEq] at e
    subst e
    exact ⟨v, rfl, h1⟩
  | succ i =>
    have := q i s (by simpa using e)
    simpa using this⟩
structure Cal (P : Program) (w : World) (K : Fg) (mg : Str → Option Value) (base : Heap) (k : Nat) (x : Str) (ps : List Str) (sp : Sp) : Prop where
  ex : ∃ (f : Addr) (fd : FuncData), mg x = some (.ref f) ∧ FnOk P w K mg base CX0 k f fd ps sp ∧ PySem.W.keepIn K (.ref f) = true ∧ Binds K fd ps []
structure Def (K : Fg) (mg : Str → Option Value) (x : Str) (st : Stmt) (ps : List Str) : Prop where
  ex : ∃ (f : Addr) (fd : FuncData), mg x = some (.ref f) ∧ Fun K x x st f fd ∧ Binds K fd ps []
theorem Cal.mono {P : Program} {w : World} {K : Fg} {mg : Str → Option Value} {base : Heap} {j k : Nat} {x : Str} {ps : List Str} {sp : Sp} (c : Cal P w K mg base j x ps sp) (h : j ≤ k) : Cal P w K mg base k x ps sp := by
  obtain ⟨f, fd, a, b, c, d⟩ := c.ex
  exact ⟨f, fd, a, b.mono h, c, d⟩
theorem pe_cal {X : Cx} {j k : Nat} {x : Str} {ps : List Str} {sp : Sp} {e : Expr} {es : List Expr} {t : TA} {p pos : Pos} (c : Cal X.prog X.w X.K X.mg X.base k x ps sp) (hr : Room j X.A) (hk : k ≤ j) (hg : Gl X x) (ha : PA X (e :: es) t)
    (hd : (x == ("__debug__" : Str)) = false := by decide) (hs : starEach (e :: es) X.env = (false, eval e X.env) :: starEach es X.env := by rfl) (hpl : (backTo pos (starEach es X.env)).any (·.1) = false := by rfl) :
    PE X (.Call (.Name x p) (e :: es) [] pos) (tCall sp [] E0 t) := by
  obtain ⟨f, fd, a, b, c, d⟩ := c.ex
  exact pe_call b (hr.mono hk) hg a c d .nil pass0 ha hd hs hpl
section
variable {P : Program} {w : World} {K : Fg} {mg : Str → Option Value} {base : Heap} {α β : Type} [Sls α] [Py β]
theorem start_kn {H S : Hp} {vs : List V} {a : α} {N : List Str} (e : Same S H) (r : PyA.rep K S vs a) : Kn K H S S (L2.start N vs) H (fun _ => []) (Sls.sls a ++ List.replicate (N.length - PyA.n α) .no) := by
  obtain ⟨l, q⟩ := Sls.ok (H := H) r
  have hn := PyA.len r
  refine ⟨Same.refl _, e, Same.refl _, fun _ _ _ => rfl, (fun i p hp => nomatch hp), (fun i j p hp => nomatch hp), ?_, fun i s hi => ?_⟩
  · unfold L2.start
    rw [List.length_append, List.length_append, List.length_map, List.length_replicate, List.length_replicate, l, hn]
  · unfold L2.start
    by_cases c : i < (Sls.sls a).length
    · rw [List.getElem?_append_left c] at hi
      rw [List.getElem?_append_left (by rw [List.length_map, ← l]; exact c)]
      exact q i s hi
    · rw [List.getElem?_append_right (by omega)] at hi
      have : s = .no := by
        have := List.mem_of_getElem? hi
        exact List.eq_of_mem_replicate this
      subst this
      exact True.intro
theorem def_spF {x : Str} {st : Stmt} {N ps : List Str} {k : Nat} {f : α → β} {pre : α → Prop} (D : Def K mg x st ps) (S : FnScope N ps (defScope st)) (hn : PyA.n α = ps.length)
    (h : ∀ (fa : Addr) (cdv : Value) (A : Around) (outer : List Env) (s : Shared) (H : Hp) (E : XK), Room k (A.deeper (envOfC x (defScope st) s.heap.objs.size fa cdv)) →
      ∃ t, PSs (cxOf CX0 P w K mg base N x (defScope st) fa cdv A outer s H E).nox (defBody st) t ∧
        ∀ (a : α), pre a → ∀ (B S0 : Hp) (Q : VK), (∀ G' y, y = f a → RT K B S0 Q y G') → At K B S0 (t { nx := fun _ H' => Q .non H', rt := Q }) (Sls.sls a ++ List.replicate (N.length - PyA.n α) .no)) :
    Cal P w K mg base (k + 1) x ps (spF K f pre) := by
  obtain ⟨fa, fd, m, F, b⟩ := D.ex
  refine ⟨fa, fd, m, F.ok S (fun vs H Q E ⟨S, a, _, r, _⟩ => (PyA.len r).trans hn) fun cdv A outer s H vs Q E hr ⟨S', a, e, r, hp, q⟩ => ?_, F.kp, b⟩
  obtain ⟨t, h1, h2⟩ := h fa cdv A outer s H E hr
  refine ⟨t, h1, h2 a hp H S' Q (fun G' y ey S1 σ1 H1 F1 v k1 r1 => ?_) S' _ H _ (start_kn e r)⟩
  subst ey
  exact q v S1 H1 ⟨k1.s0, k1.sub, k1.keep, k1.clean⟩ r1
end
end GL
namespace GL
open PySem PySem.Spec PyProof.Rows L2
inductive Fl (τ ρ : Type) where
  | nx (s : τ)
  | bk (s : τ)
  | rt (r : ρ)
def forL {α τ ρ : Type} (body : τ → α → Fl τ ρ) (k : τ → ρ) : List α → τ → ρ
  | [], s => k s
  | x :: xs, s => match body s x with
    | .nx s' => forL body k xs s'
    | .bk s' => k s'
    | .rt r => r
def whl {τ ρ : Type} (c : τ → Bool) (body : τ → Fl τ ρ) (k : τ → ρ) : Nat → τ → ρ
  | 0, s => k s
  | n + 1, s => if c s = true then (match body s with
    | .nx s' => whl c body k n s'
    | .bk s' => k s'
    | .rt r => r) else k s
section
variable {α τ ρ : Type} {body : τ → α → Fl τ ρ} {k : τ → ρ} {x : α} {xs : List α} {s s' : τ} {r : ρ} {R : ρ}
variable {c : τ → Bool} {bodyW : τ → Fl τ ρ} {n : Nat}
theorem whl_nx (h : R = whl c bodyW k (n + 1) s) (hc : c s = true) (e : bodyW s = .nx s') : R = whl c bodyW k n s' := by
  rw [h, whl, if_pos hc, e]
end
section
variable {K : Fg} {B S0 S1 S S' : Hp} {σ : L2.St} {H H' : Hp} {F : Nat → List Addr} {G G' : List Sl}
section
variable {α β γ : Type} [Py α] [Py β] [Py γ] {x : α} {y : β} {G1 G2 : List Sl} {te ta tb : TE} {t u w : TS} {E : Ends} {tt : TT} {b : Bool} {i j l : Nat} {P : L2.St → Hp → Prop}
theorem at_gen {x : α} (i : Nat) (h : G[i]? = some (.im x)) (k : ∀ y, y = x → At K B S0 P (G.set i (.im y))) : At K B S0 P G := by
  have := k x rfl
  have e : G.set i (.im x) = G := by
    apply List.ext_getElem?
    intro j
    by_cases q : i = j
    · subst q
      rw [List.getElem?_set_self (List.getElem?_eq_some_iff.mp h).1, h]
    · rw [List.getElem?_set_ne q]
  rw [e] at this
  exact this
theorem at_genO {δ : Type} [Own δ] {x : δ} (i : Nat) (h : G[i]? = some (.ow x)) (k : ∀ y, y = x → At K B S0 P (G.set i (.ow y))) : At K B S0 P G := by
  have := k x rfl
  have e : G.set i (.ow x) = G := by
    apply List.ext_getElem?
    intro j
    by_cases q : i = j
    · subst q
      rw [List.getElem?_set_self (List.getElem?_eq_some_iff.mp h).1, h]
    · rw [List.getElem?_set_ne q]
  rw [e] at this
  exact this
theorem qg_set (i : Nat) (h : EvX K te G x G1) (hi : G1[i]?.isSome = true) (k : ∀ y, y = x → At K B S0 (u E) (G1.set i (.im y))) : At K B S0 (tSeq (tAsg te (gName i)) u E) G := q_set h hi (k x rfl)
theorem qg_own {xs : List α} (i : Nat) (h : EvL K te G xs G1) (hi : G1[i]?.isSome = true) (k : ∀ y, y = xs → At K B S0 (u E) (G1.set i (.ow y))) : At K B S0 (tSeq (tAsg te (gName i)) u E) G := q_own h hi (k xs rfl)
theorem qg_pair {xy : α × β} (i j : Nat) (h : EvX K te G xy G1) (hi : G1[i]?.isSome = true) (hj : (G1.set i (.im xy.1))[j]?.isSome = true) (k : ∀ a b, a = xy.1 → b = xy.2 → At K B S0 (u E) ((G1.set i (.im a)).set j (.im b))) :
    At K B S0 (tSeq (tAsg te (gTup K 2 (gCons (gName i) (gCons (gName j) gNil)))) u E) G := q_asg h (tg_pair (tg_name hi) (tg_name hj)) (k _ _ rfl rfl)
theorem qg_app {xs xs' : List α} (i : Nat) (hl : G[i]? = some (.ow xs)) (h : EvX K te G x G1) (hl1 : G1[i]? = some (.ow xs')) (hz : xs'.length < sizeLine) (k : ∀ y, y = xs' ++ [x] → At K B S0 (u E) (G1.set i (.ow y))) :
    At K B S0 (tSeq (tDrop (tBM K "list" rAppend (tVar i) (tCons te tNil))) u E) G := q_app hl h hl1 hz (k _ rfl)
theorem qg_dput {d d' : Dct α} {n : Int} (i : Nat) (h : EvX K te G x G1) (hk : EvX K tb G1 n G2) (hl1 : G1[i]? = some (.ow d)) (hl : G2[i]? = some (.ow d')) (hz : d'.l.length < sizeLine) (k : ∀ y, y = d'.put n x → At K B S0 (u E) (G2.set i (.ow y))) :
    At K B S0 (tSeq (sDPut (tVar i) tb te) u E) G := q_dput h hk hl1 hl hz (k _ rfl)
theorem q_ifF (h : EvT K tt G b G1) (hb : b = false) (k : At K B S0 (u E) G1) : At K B S0 (tSeq (tIfS tt t tNext) u E) G := q_if h (fun e => by rw [hb] at e; cases e) fun _ => k
end
section
variable {α : Type} [Py α] {τ ρ : Type} {G1 : List Sl} {wi : TI} {g : TG} {tb u : TS} {tt : TT} {E : Ends} {xs : List α}
theorem qg_fold (γ : τ → List Sl) (step : τ → α → τ) (s0 : τ) (hi : ItG K wi G xs G1) (h0 : Le (γ s0) G1)
    (hs : ∀ pre x post s, pre ++ x :: post = xs → s = pre.foldl step s0 → ∀ S1, Reb B S0 S1 → ∃ G2 ts, TgG K g x (γ s) G2 ts ∧ At K B S1 (tb { E with nx := Mid K B S1 (· = γ (step s x)), ct := Mid K B S1 (· = γ (step s x)), bk := u E }) G2)
    (hd : ∀ s, s = xs.foldl step s0 → At K B S0 (u E) (γ s)) : At K B S0 (tSeq (tFor wi g tb) u E) G :=
  q_fold γ step s0 hi h0 (fun pre x post ex S1 rb => hs pre x post _ ex rfl S1 rb) (hd _ rfl)
theorem qg_inv (γ : τ → List Sl) (I : List α → τ → Prop) (s0 : τ) (hi : ItG K wi G xs G1) (h0 : Le (γ s0) G1) (hI : I [] s0)
    (hs : ∀ pre x post s, pre ++ x :: post = xs → I pre s → ∀ S1, Reb B S0 S1 → ∃ G2 ts, TgG K g x (γ s) G2 ts ∧ At K B S1 (tb { E with nx := Mid K B S1 (fun G' => ∃ s', G' = γ s' ∧ I (pre ++ [x]) s'), ct := Mid K B S1 (fun G' => ∃ s', G' = γ s' ∧ I (pre ++ [x]) s'), bk := u E }) G2)
    (hd : ∀ s, I xs s → At K B S0 (u E) (γ s)) : At K B S0 (tSeq (tFor wi g tb) u E) G := by
  have hi' : ItG K wi G xs (γ s0) := fun B S0 S σ H F k R q => hi B S0 S σ H F k R fun J S' H' e k' w => q J S' H' e (k'.le h0) w
  refine q_for (fun pre post Gi => ∃ s, Gi = γ s ∧ I pre s) hi' ⟨s0, rfl, hI⟩ (fun pre x post Gi ex ⟨s, e, p⟩ S1 rb => ?_) fun Gi ⟨s, e, p⟩ => by rw [e]; exact hd s p
  subst e
  exact hs pre x post s ex p S1 rb
def WhI (γ : τ → List Sl) (c : τ → Bool) (body : τ → Fl τ ρ) (k : τ → ρ) (R : ρ) (I : τ → Prop) (μ : τ → Nat) (m : Nat) (Gi : List Sl) : Prop := ∃ s, Gi = γ s ∧ R = whl c body k m s ∧ I s ∧ μ s ≤ m
def WhN (γ : τ → List Sl) (c : τ → Bool) (body : τ → Fl τ ρ) (k : τ → ρ) (R : ρ) (I : τ → Prop) (μ : τ → Nat) (n : Nat) (Gi : List Sl) : Prop := ∃ m', m' < n + 1 ∧ WhI γ c body k R I μ m' Gi
end
def spM {ω α β : Type} [Own ω] [PyA α] [Py β] (K : Fg) (f : ω → α → β × ω) (pre : ω → α → Prop) : Sp := fun vs H Q _ => ∃ (S : Hp) (v0 : V) (ws : List V) (ps : List Addr) (z : ω) (a : α), vs = v0 :: ws ∧ Same S H ∧ Own.own K S H v0 ps z ∧
  (∀ p ∈ ps, S p = none ∧ ∃ o, H p = some o) ∧ PyA.rep K S ws a ∧ pre z a ∧ ∀ v S' H', Same S S' → Same S' H' → (∀ p o, p ∉ ps → H p = some o → H' p = some o) → (∀ p o, H p = some o → S' p = S p) → (∀ p ∈ ps, ∃ o, H' p = some o) →
    Own.own K S' H' v0 ps (f z a).2 → Py.rep K S' v (f z a).1 → Q v H'
section
variable {ω α β : Type} [Own ω] [PyA α] [Py β] {G1 : List Sl} {f : ω → α → β × ω} {pre : ω → α → Prop} {z z' : ω} {a : α} {t : TA} {E : XK} {i : Nat}
theorem ev_callM (hi : G[i]? = some (.ow z)) (ha : EvA K t G a G1) (hi1 : G1[i]? = some (.ow z')) (hp : pre z' a) : EvX K (tCall (spM K f pre) [] E (tCons (tVar i) t)) G (f z' a).1 (G1.set i (.ow (f z' a).2)) := fun B S0 S σ H F k Q q => by
  obtain ⟨v0, h1, h2⟩ := k.ow hi
  refine ⟨v0, h1, ha B S0 S σ H F k _ fun vs S1 H1 e1 k1 r1 => ?_⟩
  show spM K f pre (v0 :: vs ++ []) H1 Q E
  rw [List.append_nil]
  obtain ⟨v1, h3, h4⟩ := k1.ow hi1
  rw [h1] at h3
  cases h3
  refine ⟨S1, v0, vs, F i, z', a, rfl, k1.sub, h4, fun p hp => ⟨(k1.off i p hp).1, (k1.off i p hp).2.2⟩, r1, hp, fun v S2 H2 s1 s2 hk hc hl ho r2 => q v S2 H2 (e1.trans s1) ?_ r2⟩
  have hH : ∀ p o, p ∉ F i → H1 p = some o → H2 p = some o := hk
  refine ⟨k1.s0.trans s1, s2, fun p o e => ?_, fun p o e => (hc p o (k1.keep p o e)).trans (k1.clean p o e), fun j p hp => ?_, k1.dj, by rw [List.length_set]; exact k1.len, fun j s e => ?_⟩
  · exact hH p o (fun m => by rw [(k1.off i p m).2.1] at e; cases e) (k1.keep p o e)
  · obtain ⟨a1, a2, o, a3⟩ := k1.off j p hp
    refine ⟨(hc p o a3).trans a1, a2, ?_⟩
    by_cases m : p ∈ F i
    · exact hl p m
    · exact ⟨o, hH p o m a3⟩
  · rcases set_get e with ⟨rfl, rfl⟩ | ⟨ne, e⟩
    · exact ⟨v0, h1, ho⟩
    · have w := k1.sl j s e
      cases s with
      | no => exact True.intro
      | im y =>
        obtain ⟨u, b1, b2⟩ := w
        exact ⟨u, b1, Py.mono s1 b2⟩
      | ow y =>
        obtain ⟨u, b1, b2⟩ := w
        refine ⟨u, b1, Own.mono s1 (fun p hp => ?_) b2⟩
        obtain ⟨_, _, o, a3⟩ := k1.off j p hp
        rw [a3]
        exact hH p o (fun m => ne (k1.dj j i p hp m)) a3
end
section
variable {P : Program} {w : World} {mg : Str → Option Value} {base : Heap} {ω α β : Type} [Own ω] [Anch ω] [Sls α] [Py β]
theorem start_knM {v0 : V} {ps : List Addr} {z : ω} {vs : List V} {a : α} {N : List Str} (e : Same S H) (ho : Own.own K S H v0 ps z) (hps : ∀ p ∈ ps, S p = none ∧ ∃ o, H p = some o) (r : PyA.rep K S vs a) :
    Kn K (fun p => if p ∈ ps then none else H p) S S (L2.start N (v0 :: vs)) H (fun i => if i = 0 then ps else []) (.ow z :: Sls.sls a ++ List.replicate (N.length - (PyA.n α + 1)) .no) := by
  obtain ⟨l, q⟩ := Sls.ok (H := H) r
  have hn := PyA.len r
  refine ⟨Same.refl _, e, fun p o hp => ?_, fun _ _ _ => rfl, fun i p hp => ?_, fun i j p hp hp' => ?_, ?_, fun i s hi => ?_⟩
  · by_cases m : p ∈ ps
    · rw [if_pos m] at hp
      cases hp
    · rw [if_neg m] at hp
      exact hp
  · by_cases c : i = 0
    · rw [if_pos c] at hp
      exact ⟨(hps p hp).1, if_pos hp, (hps p hp).2⟩
    · rw [if_neg c] at hp
      cases hp
  · by_cases c : i = 0
    · by_cases c' : j = 0
      · rw [c, c']
      · rw [if_neg c'] at hp'
        cases hp'
    · rw [if_neg c] at hp
      cases hp
  · unfold L2.start
    rw [List.length_append, List.length_append, List.length_map, List.length_replicate, List.length_replicate, List.length_cons, List.length_cons, l, hn]
  · unfold L2.start
    cases i with
    | zero =>
      simp only [List.cons_append, List.getElem?_cons_zero, Option.some.injEq] at hi
      subst hi
      exact ⟨v0, rfl, ho⟩
    | succ i =>
      simp only [List.cons_append, List.getElem?_cons_succ, List.map_cons] at hi ⊢
      by_cases c : i < (Sls.sls a).length
      · rw [List.getElem?_append_left c] at hi
        rw [List.getElem?_append_left (by rw [List.length_map, ← l]; exact c)]
        have := q i s hi
        rw [if_neg (Nat.succ_ne_zero i)]
        exact this
      · rw [List.getElem?_append_right (by omega)] at hi
        have : s = .no := by
          have := List.mem_of_getElem? hi
          exact List.eq_of_mem_replicate this
        subst this
        exact True.intro
theorem def_spM {x : Str} {st : Stmt} {N ps : List Str} {k : Nat} {f : ω → α → β × ω} {pre : ω → α → Prop} (D : Def K mg x st ps) (S : FnScope N ps (defScope st)) (hn : PyA.n α + 1 = ps.length) (hA : ∀ z a, pre z a → Anch.fp (f z a).2 = Anch.fp z)
    (h : ∀ (fa : Addr) (cdv : Value) (A : Around) (outer : List Env) (s : Shared) (H : Hp) (E : XK), Room k (A.deeper (envOfC x (defScope st) s.heap.objs.size fa cdv)) →
      ∃ t, PSs (cxOf CX0 P w K mg base N x (defScope st) fa cdv A outer s H E).nox (defBody st) t ∧
        ∀ (z : ω) (a : α), pre z a → ∀ (B S0 : Hp) (Q : VK), (∀ (G' : List Sl) y z', G'[0]? = some (.ow z') → (y, z') = f z a → RT K B S0 Q y G') → At K B S0 (t { nx := fun _ H' => Q .non H', rt := Q }) (.ow z :: Sls.sls a ++ List.replicate (N.length - (PyA.n α + 1)) .no)) :
    Cal P w K mg base (k + 1) x ps (spM K f pre) := by
  obtain ⟨fa, fd, m, Fu, b⟩ := D.ex
  refine ⟨fa, fd, m, Fu.ok S (fun vs H Q E ⟨S, v0, ws, qs, z, a, e, _, _, _, r, _⟩ => by rw [e, List.length_cons, PyA.len r]; exact hn) fun cdv A outer s H vs Q E hr ⟨S', v0, ws, qs, z, a, e, es, ho, hqs, r, hp, q⟩ => ?_, Fu.kp, b⟩
  subst e
  obtain ⟨t, h1, h2⟩ := h fa cdv A outer s H E hr
  refine ⟨t, h1, ?_⟩
  have kn := start_knM (N := N) es ho hqs r
  refine h2 z a hp _ S' Q (fun G' y z' hz ey S1 σ1 H1 F1 v k1 r1 => ?_) S' _ H _ kn
  obtain ⟨v1, _, o1⟩ := k1.ow hz
  have e1 : z' = (f z a).2 := by rw [← ey]
  have e2 : y = (f z a).1 := by rw [← ey]
  have ef : (v1, F1 0) = (v0, qs) := (Anch.at_ o1).trans (by rw [e1, hA z a hp]; exact (Anch.at_ ho).symm)
  have ev : v1 = v0 := congrArg Prod.fst ef
  have eF : F1 0 = qs := congrArg Prod.snd ef
  rw [ev, eF] at o1
  subst e1 e2
  refine q v S1 H1 k1.s0 k1.sub (fun p o m e => k1.keep p o (by rw [if_neg m]; exact e)) (fun p o e => ?_) (fun p m => ?_) o1 r1
  · by_cases m : p ∈ qs
    · rw [(k1.off 0 p (by rw [eF]; exact m)).1, (hqs p m).1]
    · exact k1.clean p o (by rw [if_neg m]; exact e)
  · exact (k1.off 0 p (by rw [eF]; exact m)).2.2
end
end
end GL
namespace GL
open PySem PySem.Spec PyProof.Rows L2
section
variable {K : Fg} {B S0 S1 S S' : Hp} {σ : L2.St} {H H' : Hp} {F : Nat → List Addr} {G G' G1 G2 G3 : List Sl} {ta tb tc te : TE} {i j : Nat} {u : TS} {E : Ends}
section
variable {α β γ : Type} [Py α] [Py β] [Py γ]
theorem mk_list {p : Addr} {vs : List V} {xs : List α} {Q : VK} (k : Kn K B S0 S σ H F G) (hp : H p = none) (r : RepL K S vs xs)
    (q : ∀ p vs S' H', Same S S' → Kn K B S0 S' σ H' F G → S' p = none → B p = none → (∀ j, p ∉ F j) → H' p = some (.lst vs) → RepL K S' vs xs → Q (.ref p) H') : Q (.ref p) (upd H p (.lst vs)) := by
  obtain ⟨a, b, c⟩ := k.free hp
  exact q p vs S _ (Same.refl _) (k.raw hp) a b c upd_same r
theorem RepL.rg {K : Fg} {S : Hp} (a b : Int) : RepL K S (rgV a b) (rng a b) := by
  unfold rgV rng
  generalize (List.range (b - a).toNat) = l
  induction l with
  | nil => exact True.intro
  | cons x l ih => exact ⟨rfl, ih⟩
theorem el_rng1 {n : Int} (h : EvX K ta G n G1) (hn : RgOk 0 n) : EvL K (tLstRg (tRg1 ta)) G (rng 0 n) G1 := fun B S0 S σ H F k Q q =>
  h B S0 S σ H F k _ fun v S1 H1 e1 k1 r1 => ⟨n, r1, hn, fun p hp => mk_list k1 hp (RepL.rg 0 n) fun p vs S2 H2 e2 k2 a b c d r => q p vs S2 H2 (e1.trans e2) k2 a b c d r⟩
def rListS (K : Fg) : List V → Hp → VK → Prop := fun xs H Q => ∃ p ys, xs = [.ref p] ∧ (SqL K H p ys ∨ SqT K H p ys) ∧ ∀ l, H l = none → Q (.ref l) (upd H l (.lst ys))
def rTupS (K : Fg) : List V → Hp → VK → Prop := fun xs H Q => ∃ p ys, xs = [.ref p] ∧ ((SqL K H p ys ∧ ∀ l, H l = none → Q (.ref l) (upd H l (.tup ys))) ∨ (SqT K H p ys ∧ Q (.ref p) H))
theorem call_listG {X : Cx} : CallR X (.type "list") (rListS X.K) := call_list_of
theorem call_tupG {X : Cx} : CallR X (.type "tuple") (rTupS X.K) := call_tuple_of
theorem el_list {xs : List α} (h : EvC K ta G xs G1) : EvL K (tCB (rListS K) (tCons ta tNil)) G xs G1 := fun B S0 S σ H F k Q q =>
  h B S0 S σ H F k _ fun v S1 H1 e1 k1 r1 => by
    obtain ⟨p, vs, rfl, hp, hr⟩ := r1.at k1
    exact ⟨p, vs, rfl, .inl (SqL.of hp), fun l hl => mk_list k1 hl hr fun p vs S2 H2 e2 k2 a b c d r => q p vs S2 H2 (e1.trans e2) k2 a b c d r⟩
theorem ev_tup {xs : List α} (h : EvC K ta G xs G1) : EvX K (tCB (rTupS K) (tCons ta tNil)) G (Tp.mk xs) G1 := fun B S0 S σ H F k Q q =>
  h B S0 S σ H F k _ fun v S1 H1 e1 k1 r1 => by
    obtain ⟨p, vs, rfl, hp, hr⟩ := r1.at k1
    exact ⟨p, vs, rfl, .inl ⟨SqL.of hp, fun l hl => q _ _ _ (e1.trans (same_new (k1.free hl).1)) (k1.new hl) ⟨l, vs, rfl, SqT.of upd_same, hr.mono (same_new (k1.free hl).1)⟩⟩⟩
theorem el_rep {xs : List α} {n : Int} (ha : EvX K ta G xs G1) (hb : EvX K tb G1 n G2) (hn : n < 9223372036854775808 ∧ -9223372036854775808 ≤ n) (hz : xs.length * n.toNat ≤ sizeLine) : EvL K (tOp rRep ta tb) G (List.replicate n.toNat xs).flatten G2 := fun B S0 S σ H F k Q q =>
  ha B S0 S σ H F k _ fun v S1 H1 e1 k1 r1 => hb B S0 S1 σ H1 F k1 _ fun w S2 H2 e2 k2 r2 => by
    obtain ⟨p, vs, rfl, hp, hr⟩ := Py.mono e2 r1
    exact ⟨p, n, vs, rfl, r2, k2.sub _ _ hp, hn.2, hn.1, by rw [hr.len]; exact hz, fun l hl => mk_list k2 hl (hr.rep n.toNat) fun p vs S3 H3 e3 k3 a b c d r => q p vs S3 H3 ((e1.trans e2).trans e3) k3 a b c d r⟩
def cutL {δ : Type} (xs : List δ) (lo hi : Option Int) : List δ := (xs.drop (HT.sIx xs.length 0 lo)).take (HT.sIx xs.length xs.length hi - HT.sIx xs.length 0 lo)
def EvO (K : Fg) (t : TO) (G : List Sl) (o : Option Int) : Prop := ∀ B S0 S σ H F, Kn K B S0 S σ H F G → ∀ Q : Option Int → Hp → Prop, (∀ S' H', Same S S' → Kn K B S0 S' σ H' F G → Q o H') → t σ H Q
theorem eo_none : EvO K tNoPart G none := fun B S0 S σ H F k Q q => q S H (Same.refl _) k
theorem eo_some {n : Int} (h : EvX K ta G n G) : EvO K (tPart ta) G (some n) := fun B S0 S σ H F k Q q => h B S0 S σ H F k _ fun v S1 H1 e1 k1 r1 => ⟨n, r1, q S1 H1 e1 k1⟩
theorem RepL.cut {vs : List V} {xs : List α} (h : RepL K S vs xs) (lo hi : Option Int) : RepL K S (cutV vs lo hi) (cutL xs lo hi) := by
  unfold cutV cutL
  rw [h.len]
  exact (h.drop _).take _
theorem inV_ints (x : Int) : ∀ xs : List Int, inV (.int x) (xs.map V.int) = decide (x ∈ xs)
  | [] => by simp [inV]
  | y :: xs => by
    have ih := inV_ints x xs
    unfold inV at ih ⊢
    rw [List.map_cons, List.any_cons, ih]
    by_cases e : y = x
    · subst e
      simp [eqV]
    · have : ¬ x = y := fun z => e z.symm
      simp [eqV, e, this]
theorem flat_ints : ∀ xs : List Int, (xs.map V.int).all flatV = true
  | [] => rfl
  | _ :: xs => by rw [List.map_cons, List.all_cons, flat_ints xs]; rfl
theorem ev_inL {x : Int} {xs : List Int} (ha : EvX K ta G x G) (hb : EvC K tb G xs G) : EvX K (tOp (rIn K false) ta tb) G (decide (x ∈ xs)) G := fun B S0 S σ H F k Q q =>
  ha B S0 S σ H F k _ fun v S1 H1 e1 k1 r1 => hb B S0 S1 σ H1 F k1 _ fun w S2 H2 e2 k2 r2 => by
    obtain ⟨p, vs, rfl, hp, hr⟩ := r2.at k2
    rw [hr.ints] at hp
    rw [show v = .int x from r1]
    exact ⟨p, _, rfl, .inl (SqL.of hp), rfl, flat_ints _, q _ S2 H2 (e1.trans e2) k2 (by rw [inV_ints]; rfl)⟩
theorem ev_ninL {x : Int} {xs : List Int} (ha : EvX K ta G x G) (hb : EvC K tb G xs G) : EvX K (tOp (rIn K true) ta tb) G (!decide (x ∈ xs)) G := fun B S0 S σ H F k Q q =>
  ha B S0 S σ H F k _ fun v S1 H1 e1 k1 r1 => hb B S0 S1 σ H1 F k1 _ fun w S2 H2 e2 k2 r2 => by
    obtain ⟨p, vs, rfl, hp, hr⟩ := r2.at k2
    rw [hr.ints] at hp
    rw [show v = .int x from r1]
    exact ⟨p, _, rfl, .inl (SqL.of hp), rfl, flat_ints _, q _ S2 H2 (e1.trans e2) k2 (by rw [inV_ints]; rfl)⟩
def srt (xs : List Int) : List Int := xs.mergeSort fun a b => decide (a ≤ b)
theorem srt_perm (xs : List Int) : (srt xs).Perm xs := List.mergeSort_perm xs _
theorem srt_sorted (xs : List Int) : (srt xs).Pairwise (· ≤ ·) := by
  have h := List.pairwise_mergeSort (le := fun a b : Int => decide (a ≤ b)) (fun a b c h1 h2 => by simp only [decide_eq_true_eq] at *; omega) (fun a b => by simp only [Bool.or_eq_true, decide_eq_true_eq]; omega) xs
  exact h.imp fun q => of_decide_eq_true q
def rSortDI : List V → Hp → VK → Prop := fun xs H Q => ∃ (a : Addr) (kvs : List (Key × V)) (ks : List Int), xs = [.ref a] ∧ Rd H a (.dK kvs) ∧ kvs.map (·.1) = ks.map Sum.inl ∧ ks.length < 64 ∧
    ∀ (ys : List Int) (p : Addr), ys.Perm ks → ys.Pairwise (· ≤ ·) → H p = none → Q (.ref p) (upd H p (.lst (ys.map V.int)))
theorem ev_pop0 [Inhabited α] {xs : List α} (hl : G[i]? = some (.ow xs)) (hx : xs ≠ []) : EvX K (tBM K "list" rPopAt (tVar i) (tCons (tC (.int 0)) tNil)) G (ix xs 0) (G.set i (.ow (xs.drop 1))) := fun B S0 S σ H F k Q q => by
  obtain ⟨p, vs, h1, h2, h3, h4⟩ := own_list k hl
  cases xs with
  | nil => exact absurd rfl hx
  | cons x xs =>
    cases vs with
    | nil => exact h4.elim
    | cons v vs =>
      refine ⟨.ref p, h1, .inl ⟨rfl, _, SqL.of h3⟩, p, v :: vs, 0, 0, v, rfl, rfl, h3, by decide, by decide, ?_, rfl, q v S _ (Same.refl _) (own_listUpd k h1 h2 (vs := (v :: vs).eraseIdx 0) h4.2) h4.1⟩
      unfold seqIndex?
      simp
end
class Dt (α : Type) [Py α] where
  dat : α → PyData
  dp : ∀ {K : Fg} {S H : Hp} {v : V} {x : α}, Same S H → Py.rep K S v x → Dp K H v (dat x)
  lay : ∀ x : α, (dat x).canLay0 = true
  dep : Nat
  dle : ∀ x : α, (dat x).depth ≤ dep
  eq : ∀ x y : α, (PyData.eqv (dat x) (dat y) = true) ↔ x = y
section
variable {α β γ : Type} [Py α] [Py β] [Py γ]
instance : Dt Int := ⟨PyData.int, fun _ h => by rw [show _ = V.int _ from h]; exact .int _, fun _ => rfl, 0, fun _ => Nat.le_refl _, fun x y => by simp [PyData.eqv]⟩
instance : Dt Bool := ⟨PyData.bool, fun _ h => by rw [show _ = V.bl _ from h]; exact .bl _, fun _ => rfl, 0, fun _ => Nat.le_refl _, fun x y => by simp [PyData.eqv]⟩
theorem dpAll [Dt α] (e : Same S H) : ∀ {vs : List V} {xs : List α}, RepL K S vs xs → DpAll K H vs (xs.map Dt.dat)
  | [], [], _ => .nil
  | _ :: _, _ :: _, h => .cons (Dt.dp e h.1) (dpAll e h.2)
  | [], _ :: _, h => h.elim
  | _ :: _, [], h => h.elim
theorem layAll [Dt α] : ∀ xs : List α, PyData.canLayAll0 (xs.map Dt.dat) = true
  | [] => rfl
  | x :: xs => by rw [List.map_cons, PyData.canLayAll0, Dt.lay, layAll xs]; rfl
theorem depAll [Dt α] : ∀ xs : List α, PyData.depthAll (xs.map Dt.dat) ≤ Dt.dep α
  | [] => by rw [List.map_nil, PyData.depthAll]; exact Nat.zero_le _
  | x :: xs => by
    rw [List.map_cons, PyData.depthAll]
    have h1 := Dt.dle x
    have h2 := depAll xs
    omega
theorem eqAll [Dt α] : ∀ xs ys : List α, (PyData.eqvAll (xs.map Dt.dat) (ys.map Dt.dat) = true) ↔ xs = ys
  | [], [] => by simp [PyData.eqvAll]
  | [], _ :: _ => by simp [PyData.eqvAll]
  | _ :: _, [] => by simp [PyData.eqvAll]
  | x :: xs, y :: ys => by
    rw [List.map_cons, List.map_cons, PyData.eqvAll, Bool.and_eq_true, Dt.eq, eqAll xs ys, List.cons.injEq]
instance [Dt α] : Dt (List α) := ⟨fun xs => .list (xs.map Dt.dat), fun e ⟨p, vs, h1, h2, h3⟩ => by rw [h1]; exact .lst (SqL.of (e _ _ h2)) (dpAll e h3), fun xs => by rw [PyData.canLay0]; exact layAll xs, Dt.dep α + 1,
  fun xs => by rw [PyData.depth]; exact Nat.succ_le_succ (depAll xs), fun xs ys => by rw [PyData.eqv]; exact eqAll xs ys⟩
instance [Dt α] : Dt (Tp α) := ⟨fun xs => .tuple (xs.l.map Dt.dat), fun e ⟨p, vs, h1, h2, h3⟩ => by rw [h1]; exact .tup (seqT e h2) (dpAll e h3), fun xs => by rw [PyData.canLay0]; exact layAll xs.l, Dt.dep α + 1,
  fun xs => by rw [PyData.depth]; exact Nat.succ_le_succ (depAll xs.l), fun xs ys => by
    rw [PyData.eqv, eqAll]
    cases xs; cases ys
    simp⟩
instance [Dt α] [Dt β] : Dt (α × β) := ⟨fun x => .tuple [Dt.dat x.1, Dt.dat x.2], fun e ⟨p, a, b, h1, h2, h3, h4⟩ => by rw [h1]; exact .tup (seqT e h2) (.cons (Dt.dp e h3) (.cons (Dt.dp e h4) .nil)),
  fun x => by simp [PyData.canLay0, PyData.canLayAll0, Dt.lay], max (Dt.dep α) (Dt.dep β) + 1, fun x => by
    have h1 := Dt.dle x.1
    have h2 := Dt.dle x.2
    simp only [PyData.depth, PyData.depthAll]
    omega, fun x y => by
    simp only [PyData.eqv, PyData.eqvAll, Bool.and_eq_true, Dt.eq, and_true]
    exact ⟨fun h => Prod.ext h.1 h.2, fun h => by rw [h]; exact ⟨rfl, rfl⟩⟩⟩
instance [Dt α] [Dt β] [Dt γ] : Dt (T3 α β γ) := ⟨fun x => .tuple [Dt.dat x.a, Dt.dat x.b, Dt.dat x.c], fun e ⟨p, a, b, c, h1, h2, h3, h4, h5⟩ => by rw [h1]; exact .tup (seqT e h2) (.cons (Dt.dp e h3) (.cons (Dt.dp e h4) (.cons (Dt.dp e h5) .nil))),
  fun x => by simp [PyData.canLay0, PyData.canLayAll0, Dt.lay], max (Dt.dep α) (max (Dt.dep β) (Dt.dep γ)) + 1, fun x => by
    have h1 := Dt.dle x.a
    have h2 := Dt.dle x.b
    have h3 := Dt.dle x.c
    simp only [PyData.depth, PyData.depthAll]
    omega, fun x y => by
    simp only [PyData.eqv, PyData.eqvAll, Bool.and_eq_true, Dt.eq, and_true]
    cases x; cases y
    simp⟩
theorem shapedD [Dt α] (h : Dt.dep α ≤ 64) (x : α) : SeqAt.shaped (Dt.dat x) = true := by
  unfold SeqAt.shaped
  rw [Dt.lay, decide_eq_true (Nat.le_trans (Dt.dle x) h)]
  rfl
theorem eqvD [Dt α] [DecidableEq α] (x y : α) : PyData.eqv (Dt.dat x) (Dt.dat y) = decide (x = y) := by
  by_cases e : x = y
  · rw [decide_eq_true e]
    exact (Dt.eq x y).mpr e
  · rw [decide_eq_false e]
    exact Bool.eq_false_iff.mpr fun h => e ((Dt.eq x y).mp h)
theorem ev_neD [Dt α] [DecidableEq α] {x y : α} (ha : EvX K ta G x G1) (hb : EvX K tb G1 y G2) (h : Dt.dep α ≤ 64) : EvX K (tOp (rNeD K) ta tb) G (!decide (x = y)) G2 := fun B S0 S σ H F k Q q =>
  ha B S0 S σ H F k _ fun v S1 H1 e1 k1 r1 => hb B S0 S1 σ H1 F k1 _ fun w S2 H2 e2 k2 r2 =>
    ⟨_, _, Dt.dp k2.sub (Py.mono e2 r1), Dt.dp k2.sub r2, shapedD h x, shapedD h y, q _ S2 H2 (e1.trans e2) k2 (by rw [eqvD]; rfl)⟩
end
theorem ev_chain {f f' : Int → Int → Bool} {a b c : Int} (ha : EvX K ta G a G) (hb : EvX K tb G b G) (hc : EvX K tc G c G) : EvX K (tChain (rI0 fun i j => .bl (f i j)) (rI0 fun i j => .bl (f' i j)) ta tb tc) G (f a b && f' b c) G := fun B S0 S σ H F k Q q =>
  ha B S0 S σ H F k _ fun v S1 H1 e1 k1 r1 => hb B S0 S1 σ H1 F k1 _ fun w S2 H2 e2 k2 r2 => ⟨a, b, r1, r2, f a b, rfl, by
    cases hf : f a b with
    | true =>
      rw [if_pos rfl]
      exact hc B S0 S2 σ H2 F k2 _ fun x S3 H3 e3 k3 r3 => ⟨b, c, r2, r3, q _ S3 H3 ((e1.trans e2).trans e3) k3 (by rw [hf]; rfl)⟩
    | false =>
      rw [if_neg Bool.false_ne_true]
      exact q _ S2 H2 (e1.trans e2) k2 (by rw [hf]; rfl)⟩
theorem ev_isN {α : Type} [Py α] {x : Option α} (hx : ∀ (K : Fg) (S : Hp) (v : V) (y : α), Py.rep K S v y → v ≠ .non) (ha : EvX K ta G x G1) : EvX K (tIsN ta) G x.isNone G1 := fun B S0 S σ H F k Q q =>
  ha B S0 S σ H F k _ fun v S1 H1 e1 k1 r1 => q _ S1 H1 e1 k1 (by
    cases x with
    | none => rw [show v = .non from r1]; rfl
    | some y => exact congrArg V.bl (decide_eq_false (hx K S1 v y r1)))
theorem ev_notN {α : Type} [Py α] {x : Option α} (hx : ∀ (K : Fg) (S : Hp) (v : V) (y : α), Py.rep K S v y → v ≠ .non) (ha : EvX K ta G x G1) : EvX K (tNotN ta) G x.isSome G1 := fun B S0 S σ H F k Q q =>
  ha B S0 S σ H F k _ fun v S1 H1 e1 k1 r1 => q _ S1 H1 e1 k1 (by
    cases x with
    | none => rw [show v = .non from r1]; rfl
    | some y => exact congrArg V.bl (by rw [decide_eq_false (hx K S1 v y r1)]; rfl))
end
end GL
namespace GL
open PySem PySem.Spec PyProof.Rows L2
def spLaw (K : Fg) : Sp := fun vs H Q _ => ∃ (a : Addr) (ns : List Int), vs = [.ref a] ∧ SqL K H a (ns.map V.int) ∧ ns.length ≤ 63 ∧ ∀ H', Q (.bl true) H'
def spSpring (K : Fg) : Sp := fun vs H Q _ => ∃ (S : Hp) (a : Scr × Int × Unit), Same S H ∧ PyA.rep K S vs a ∧ (0 ≤ a.2.1 ∧ a.2.1 ≤ 1000) ∧ ∀ z p S' H', Grow S H S' H' → H p = none → S' p = none → H' p = some (.lst [.int z]) → Q (.ref p) H'
section
variable {P : Program} {w : World} {K : Fg} {mg : Str → Option Value} {base : Heap}
theorem fn_law {st : Stmt} {fa : Addr} {fd : FuncData} {N : List Str} {k : Nat} (F : Fun K "law" "law" st fa fd) (S : FnScope N ["script"] (defScope st))
    (h : ∀ (cdv : Value) (A : Around) (outer : List Env) (s : Shared) (H : Hp) (E : XK), Room k (A.deeper (envOfC "law" (defScope st) s.heap.objs.size fa cdv)) →
      ∃ t, PSs (cxOf CX0 P w K mg base N "law" (defScope st) fa cdv A outer s H E).nox (defBody st) t ∧
        ∀ (a : Scr), a.l.length ≤ 63 → ∀ (B S0 : Hp) (Q : VK), (∀ (G' : List Sl) (y : Bool), y = true → RT K B S0 Q y G') → At K B S0 (t { nx := fun _ H' => Q .non H', rt := Q }) (.im a :: List.replicate (N.length - 1) .no)) :
    FnOk P w K mg base CX0 (k + 1) fa fd ["script"] (spLaw K) := by
  refine F.ok S (fun vs H Q E ⟨a, ns, e, _⟩ => by rw [e]; rfl) fun cdv A outer s H vs Q E hr ⟨a, ns, e, hs, hl, q⟩ => ?_
  subst e
  obtain ⟨t, h1, h2⟩ := h cdv A outer s H E hr
  have kn := start_kn (K := K) (H := H) (S := H) (vs := [.ref a]) (a := ((⟨ns⟩, ()) : Scr × Unit)) (N := N) (Same.refl _) ⟨.ref a, [], rfl, ⟨a, rfl, hs⟩, rfl⟩
  refine ⟨t, h1, h2 ⟨ns⟩ hl H H Q (fun G' y ey S1 σ1 H1 F1 v k1 r1 => ?_) H _ H _ kn⟩
  rw [show v = .bl y from r1, ey]
  exact q H1
end
section
variable {K : Fg} {B S0 : Hp} {G G1 : List Sl} {t : TA} {E : XK} {u : TS} {D : Ends}
end
@[irreducible] def lawCup (z : Spr) (m : Int) : Int × Spr := (z.z % m, ⟨z.a, z.z / m⟩)
theorem le_line {n : Nat} (h : n ≤ 1000000) : n ≤ sizeLine := Nat.le_trans h (by decide)
theorem lt_line {n : Nat} (h : n ≤ 1000000) : n < sizeLine := Nat.lt_of_le_of_lt h (by decide)
end GL
namespace GL
open PySem PySem.Spec PyProof.Rows L2
def rRepTA (K : Fg) : R2 := fun x y H Q => ∃ l k xs, x = .ref l ∧ y = .int k ∧ SqT K H l xs ∧ xs ≠ [] ∧ -1000 ≤ k ∧ k ≤ 1000 ∧ xs.length ≤ 1000 ∧ (k ≤ 0 → ∀ p, H p = none → Q (.ref p) (upd H p (.tup []))) ∧ (k = 1 → Q (.ref l) H) ∧
  (2 ≤ k → ∀ p, H p = none → Q (.ref p) (upd H p (.tup (List.replicate k.toNat xs).flatten)))
section
variable {K : Fg} {G G1 G2 : List Sl} {ta tb : TE} {α : Type} [Py α]
end
end GL
set_option maxHeartbeats 4000000
namespace L2
open PySem PySem.Spec PyProof.Rows
section
variable {P : Program} {w : World} {A : Around} {E : Value → Shared → Prop} {s : Shared}
end
section
variable {X : Cx}
def tSortSet (K : PySem.W.Frag) (ta : TE) : TE := fun σ H Q => ta σ H fun x H1 => ∃ (l : Addr) (ns : List Int), x = V.ref l ∧ SqL K H1 l (ns.map V.int) ∧ ns.length < 64 ∧
  ∀ (ms : List Int) (p : Addr), ms.Pairwise (· < ·) → (∀ k : Int, k ∈ ms ↔ k ∈ ns) → H1 p = none → Q (.ref p) (upd H1 p (.lst (ms.map V.int)))
end
end L2
namespace GL
open PySem PySem.Spec PyProof.Rows L2
section
variable {K : Fg} {B S0 S1 S S' : Hp} {σ : L2.St} {H H' : Hp} {F : Nat → List Addr} {G G' G1 G2 G3 : List Sl} {ta tb tc te : TE} {i j : Nat} {u : TS} {E : Ends}
def usrt (xs : List Int) : List Int := srt xs.eraseDups
theorem mem_usrt {xs : List Int} {k : Int} : k ∈ usrt xs ↔ k ∈ xs := by
  unfold usrt
  rw [(srt_perm _).mem_iff, List.mem_eraseDups]
theorem nodup_eraseDups (xs : List Int) : xs.eraseDups.Nodup := by
  generalize hn : xs.length = n
  induction n using Nat.strongRecOn generalizing xs with
  | _ n ih =>
    cases xs with
    | nil => simp
    | cons a l =>
      rw [List.eraseDups_cons]
      refine List.nodup_cons.mpr ⟨?_, ih _ ?_ _ rfl⟩
      · rw [List.mem_eraseDups, List.mem_filter]; simp
      · have := List.length_filter_le (fun b => !b == a) l
        simp only [List.length_cons] at hn
        omega
theorem pw_lt_unique : ∀ {xs ys : List Int}, xs.Pairwise (· < ·) → ys.Pairwise (· < ·) → (∀ k, k ∈ xs ↔ k ∈ ys) → xs = ys
  | [], [], _, _, _ => rfl
  | [], y :: ys, _, _, h => absurd ((h y).mpr List.mem_cons_self) (by simp)
  | x :: xs, [], _, _, h => absurd ((h x).mp List.mem_cons_self) (by simp)
  | x :: xs, y :: ys, hx, hy, h => by
    have hx' := List.pairwise_cons.mp hx
    have hy' := List.pairwise_cons.mp hy
    have e : x = y := by
      rcases List.mem_cons.mp ((h x).mp List.mem_cons_self) with e | e
      · exact e
      · rcases List.mem_cons.mp ((h y).mpr List.mem_cons_self) with e2 | e2
        · exact e2.symm
        · have := hx'.1 _ e2; have := hy'.1 _ e; omega
    subst e
    rw [pw_lt_unique hx'.2 hy'.2 fun k => ?_]
    constructor
    · intro hk
      rcases List.mem_cons.mp ((h k).mp (List.mem_cons_of_mem _ hk)) with e | e
      · have := hx'.1 _ hk; omega
      · exact e
    · intro hk
      rcases List.mem_cons.mp ((h k).mpr (List.mem_cons_of_mem _ hk)) with e | e
      · have := hy'.1 _ hk; omega
      · exact e
theorem usrt_pw (xs : List Int) : (usrt xs).Pairwise (· < ·) := by
  have h1 := srt_sorted xs.eraseDups
  have h2 : (srt xs.eraseDups).Nodup := (srt_perm _).symm.nodup (nodup_eraseDups xs)
  exact (h1.and h2).imp fun ⟨a, b⟩ => by omega
theorem usrt_eq {xs ys : List Int} (h : ys.Pairwise (· < ·)) (m : ∀ k, k ∈ ys ↔ k ∈ xs) : ys = usrt xs := pw_lt_unique h (usrt_pw xs) fun k => (m k).trans mem_usrt.symm
end
end GL
namespace GL
open PySem PySem.Spec PyProof.Rows L2
section
variable {K : Fg} {B S0 S1 S S' : Hp} {σ : L2.St} {H H' : Hp} {F : Nat → List Addr} {G G' G1 G2 G3 : List Sl} {ta tb tc te : TE} {i j : Nat} {u : TS} {D : Ends}
class Ty (α : Type) [Py α] (n : outParam String) where
  ty : ∀ {K : Fg} {S H : Hp} {v : V} {x : α}, Same S H → Py.rep K S v x → TyX K H v (.type n)
theorem tyT {p : Addr} {vs : List V} (e : Same S H) (h : SqT K S p vs) : TyX K H (.ref p) (.type "tuple") := by
  rcases seqT e h with (h | ⟨o, h⟩) | ⟨o, its, n, h1, h2, _⟩
  · exact .base (.tup h)
  · exact .fTuple h
  · exact .kTuple h1 h2
instance : Ty Int "int" := ⟨fun _ h => by rw [show _ = V.int _ from h]; exact .base (.int _)⟩
instance : Ty Bool "bool" := ⟨fun _ h => by rw [show _ = V.bl _ from h]; exact .base (.bl _)⟩
instance : Ty Str "str" := ⟨fun _ h => by rw [show _ = V.str _ from h]; exact .base (.str _)⟩
instance {α : Type} [Py α] : Ty (List α) "list" := ⟨fun e ⟨p, vs, h1, h2, _⟩ => by rw [h1]; exact .base (.lst (e _ _ h2))⟩
instance {α : Type} [Py α] : Ty (Tp α) "tuple" := ⟨fun e ⟨p, vs, h1, h2, _⟩ => by rw [h1]; exact tyT e h2⟩
instance {α β : Type} [Py α] [Py β] : Ty (α × β) "tuple" := ⟨fun e ⟨p, a, b, h1, h2, _⟩ => by rw [h1]; exact tyT e h2⟩
instance {α β γ : Type} [Py α] [Py β] [Py γ] : Ty (T3 α β γ) "tuple" := ⟨fun e ⟨p, a, b, c, h1, h2, _⟩ => by rw [h1]; exact tyT e h2⟩
inductive Bk (vs : List Nat) : Nat → List Sl → List Sl → List Sl → Prop
  | n {i : Nat} : Bk vs i [] [] []
  | a {i : Nat} {s o : Sl} {G' G4 G : List Sl} (h : i ∉ vs) : Bk vs (i + 1) G' G4 G → Bk vs i (s :: G') (s :: G4) (o :: G)
  | b {i : Nat} {s o : Sl} {G' G4 G : List Sl} (h : s.isOw = false) : Bk vs (i + 1) G' G4 G → Bk vs i (s :: G') (o :: G4) (s :: G)
theorem Bk.get {vs : List Nat} : ∀ {i : Nat} {Gn G4 G : List Sl}, Bk vs i Gn G4 G → ∀ (j : Nat) (sl : Sl), Gn[j]? = some sl → (i + j ∉ vs ∧ G4[j]? = some sl) ∨ (sl.isOw = false ∧ G[j]? = some sl)
  | _, _, _, _, .n, j, sl, e => by simp at e
  | i, _, _, _, .a h t, 0, sl, e => by
    simp only [List.getElem?_cons_zero, Option.some.injEq] at e
    subst e
    exact .inl ⟨h, rfl⟩
  | i, _, _, _, .b h t, 0, sl, e => by
    simp only [List.getElem?_cons_zero, Option.some.injEq] at e
    subst e
    exact .inr ⟨h, rfl⟩
  | i, _, _, _, .a h t, j + 1, sl, e => by
    have := Bk.get t j sl (by simpa using e)
    rw [show i + 1 + j = i + (j + 1) by omega] at this
    simpa using this
  | i, _, _, _, .b h t, j + 1, sl, e => by
    have := Bk.get t j sl (by simpa using e)
    rw [show i + 1 + j = i + (j + 1) by omega] at this
    simpa using this
theorem Bk.len {vs : List Nat} : ∀ {i : Nat} {Gn G4 G : List Sl}, Bk vs i Gn G4 G → Gn.length = G.length
  | _, _, _, _, .n => rfl
  | _, _, _, _, .a _ t => by rw [List.length_cons, List.length_cons, t.len]
  | _, _, _, _, .b _ t => by rw [List.length_cons, List.length_cons, t.len]
def mapX {τ α β : Type} (e : τ → α → β) (step : τ → α → τ) (xs : List α) (s0 : τ) : List β × τ := xs.foldl (fun a x => (a.1 ++ [e a.2 x], step a.2 x)) ([], s0)
theorem mapX_snd {τ α β : Type} (e : τ → α → β) (step : τ → α → τ) (xs : List α) (s0 : τ) : (mapX e step xs s0).2 = xs.foldl step s0 := by
  unfold mapX
  have : ∀ (l : List α) (a : List β) (s : τ), (l.foldl (fun (a : List β × τ) x => (a.1 ++ [e a.2 x], step a.2 x)) (a, s)).2 = l.foldl step s := by
    intro l
    induction l with
    | nil => intro a s; rfl
    | cons x l ih => intro a s; exact ih _ _
  exact this xs [] s0
theorem mapX_all {τ α β : Type} {e : τ → α → β} {step : τ → α → τ} (P : β → Prop) (h : ∀ s x, P (e s x)) (xs : List α) (s0 : τ) : ∀ y ∈ (mapX e step xs s0).1, P y := by
  unfold mapX
  have : ∀ (l : List α) (a : List β) (s : τ), (∀ y ∈ a, P y) → ∀ y ∈ (l.foldl (fun (a : List β × τ) x => (a.1 ++ [e a.2 x], step a.2 x)) (a, s)).1, P y := by
    intro l
    induction l with
    | nil => intro a s ha; exact ha
    | cons x l ih =>
      intro a s ha
      refine ih _ _ fun y hy => ?_
      rcases List.mem_append.mp hy with q | q
      · exact ha y q
      · rw [List.mem_singleton.mp q]
        exact h s x
  exact this xs [] s0 (fun y hy => by simp at hy)
theorem mapX_len {τ α β : Type} (e : τ → α → β) (step : τ → α → τ) (xs : List α) (s0 : τ) : (mapX e step xs s0).1.length = xs.length := by
  unfold mapX
  have : ∀ (l : List α) (a : List β) (s : τ), (l.foldl (fun (a : List β × τ) x => (a.1 ++ [e a.2 x], step a.2 x)) (a, s)).1.length = a.length + l.length := by
    intro l
    induction l with
    | nil => intro a s; rfl
    | cons x l ih =>
      intro a s
      rw [List.foldl_cons, ih]
      simp only [List.length_append, List.length_cons, List.length_nil]
      omega
  rw [this]
  simp
theorem mapX_inv {τ α β : Type} {e : τ → α → β} {step : τ → α → τ} (P : τ → Prop) (h : ∀ s x, P s → P (step s x)) (xs : List α) (s0 : τ) (h0 : P s0) : P (mapX e step xs s0).2 := by
  rw [mapX_snd]
  induction xs generalizing s0 with
  | nil => exact h0
  | cons x xs ih => exact ih _ (h s0 x h0)
theorem el_lcE {α β τ : Type} [Py α] [Py β] {wi : TI} {g : TG} {te : TE} {vs : List Nat} {xs : List α} (γ : τ → List Sl) (s0 : τ) (step : τ → α → τ) (e : τ → α → β) (hi : ItG K wi G xs (γ s0)) (hl : xs.length ≤ 1000000)
    (hs : ∀ x s, x ∈ xs → ∃ G2 ts, TgG K g x (wipeG (γ s) vs) G2 ts ∧ (∀ t ∈ ts, t ∈ vs) ∧ ∃ G4, EvX K te G2 (e s x) G4 ∧ Bk vs 0 (γ (step s x)) G4 (γ s)) :
    EvL K (tLc wi g tYes te vs) G (mapX e step xs s0).1 (γ (mapX e step xs s0).2) := by
  have h := el_lcX (K := K) (wi := wi) (g := g) (tt := tYes) (te := te) (vs := vs) (G := G) γ s0 step (fun _ _ => true) e hi hl fun pre x post ex s hs' => by
    obtain ⟨G2, ts, tg, hts, G4, he, bk⟩ := hs x s (by rw [← ex]; exact List.mem_append_right _ List.mem_cons_self)
    refine ⟨G2, ts, tg, hts, G2, G4, et_yes, fun _ => he, (fun h => nomatch h), fun j sl hj => ?_, bk.len⟩
    have := bk.get j sl hj
    rw [Nat.zero_add] at this
    exact this
  simp only [if_true] at h
  rw [mapX_snd]
  exact h
def spR {ω α β : Type} [Own ω] [Anch ω] [PyA α] [Py β] (K : Fg) (ω' : Type := ω) (R : α → β → Prop) (pre : α → Prop) : Sp := fun vs H Q _ => ∃ (S : Hp) (v0 : V) (ws : List V) (ps : List Addr) (z : ω) (a : α), vs = v0 :: ws ∧ Same S H ∧ Own.own K S H v0 ps z ∧
  (∀ p ∈ ps, S p = none ∧ ∃ o, H p = some o) ∧ PyA.rep K S ws a ∧ pre a ∧ ∀ v S' H' (y : β) (z' : ω), R a y → Anch.fp z' = Anch.fp z → Same S S' → Same S' H' → (∀ p o, p ∉ ps → H p = some o → H' p = some o) → (∀ p o, H p = some o → S' p = S p) → (∀ p ∈ ps, ∃ o, H' p = some o) →
    Own.own K S' H' v0 ps z' → Py.rep K S' v y → Q v H'
abbrev spRS {α β : Type} [PyA α] [Py β] (K : Fg) (R : α → β → Prop) (pre : α → Prop) : Sp := spR (ω := Spr) K Spr R pre
section
variable {α β : Type} [PyA α] [Py β] {R : α → β → Prop} {pre : α → Prop} {z z1 : Spr} {a : α} {t : TA} {E : XK} {g : TG}
end
end
section
variable {P : Program} {w : World} {K : Fg} {mg : Str → Option Value} {base : Heap} {α β : Type} [Sls α] [Py β]
end
end GL
namespace GL
open PySem PySem.Spec PyProof.Rows L2
end GL
namespace GL
open PySem PySem.Spec PyProof.Rows L2
section
variable {K : Fg} {B S0 S1 S S' : Hp} {σ : L2.St} {H H' : Hp} {F : Nat → List Addr} {G G' G1 G2 G3 : List Sl} {ta tb tc te : TE} {i j : Nat} {u : TS} {E : Ends}
theorem EvX.get {α : Type} [Py α] [Inhabited α] {x : Option α} (ha : EvX K ta G x G1) (h : x.isSome = true) : EvX K ta G (x.getD default) G1 := fun B S0 S σ H F k Q q =>
  ha B S0 S σ H F k _ fun v S1 H1 e1 k1 r1 => q v S1 H1 e1 k1 (by
    cases x with
    | none => exact absurd h Bool.false_ne_true
    | some y => exact r1)
theorem nn_int : ∀ (K : Fg) (S : Hp) (v : V) (y : Int), Py.rep K S v y → v ≠ .non := fun K S v y r e => by
  have h : v = .int y := r
  rw [h] at e
  cases e
instance : Dt Unit := ⟨fun _ => PyData.none, fun _ h => by rw [show _ = V.non from h]; exact .non, fun _ => rfl, 0, fun _ => Nat.le_refl _, fun x y => by simp [PyData.eqv]⟩
instance : Dt (Option Int) := ⟨fun x => match x with | none => PyData.none | some y => PyData.int y, fun {K S H v x} _ h => by
    cases x with
    | none => rw [show _ = V.non from h]; exact .non
    | some y => rw [show _ = V.int y from h]; exact .int _, fun x => by cases x <;> rfl, 0, fun x => by cases x <;> exact Nat.le_refl _, fun x y => by cases x <;> cases y <;> simp [PyData.eqv]⟩
def maxL : List Int → Int
  | [] => 0
  | x :: xs => xs.foldl max x
theorem le_foldl_max : ∀ (xs : List Int) (a : Int), a ≤ xs.foldl max a
  | [], a => Int.le_refl a
  | x :: xs, a => Int.le_trans (Int.le_max_left a x) (le_foldl_max xs (max a x))
theorem mem_foldl_max : ∀ (xs : List Int) (a y : Int), y ∈ xs → y ≤ xs.foldl max a
  | x :: xs, a, y, h => by
    rcases List.mem_cons.mp h with e | e
    · rw [e]; exact Int.le_trans (Int.le_max_right a x) (le_foldl_max xs (max a x))
    · exact mem_foldl_max xs (max a x) y e
theorem foldl_max_mem : ∀ (xs : List Int) (a : Int), xs.foldl max a = a ∨ xs.foldl max a ∈ xs
  | [], a => .inl rfl
  | x :: xs, a => by
    rcases foldl_max_mem xs (max a x) with e | e
    · rw [List.foldl_cons, e]
      by_cases h : a ≤ x
      · rw [Int.max_eq_right h]; exact .inr List.mem_cons_self
      · rw [Int.max_eq_left (by omega)]; exact .inl rfl
    · exact .inr (List.mem_cons_of_mem _ e)
theorem maxL_mem {xs : List Int} (h : xs ≠ []) : maxL xs ∈ xs := by
  cases xs with
  | nil => exact absurd rfl h
  | cons x xs =>
    rcases foldl_max_mem xs x with e | e
    · rw [show maxL (x :: xs) = xs.foldl max x from rfl, e]; exact List.mem_cons_self
    · exact List.mem_cons_of_mem _ e
theorem le_maxL {xs : List Int} {y : Int} (h : y ∈ xs) : y ≤ maxL xs := by
  cases xs with
  | nil => exact absurd h (by simp)
  | cons x xs =>
    rcases List.mem_cons.mp h with e | e
    · rw [e]; exact le_foldl_max xs x
    · exact mem_foldl_max xs x y e
end
end GL
set_option maxHeartbeats 4000000
namespace L2
open PySem PySem.Spec PyProof.Rows
def le2 (a b : Int × Int) : Prop := a.1 < b.1 ∨ (a.1 = b.1 ∧ a.2 ≤ b.2)
section
variable {X : Cx}
def rSort2 (K : PySem.W.Frag) : List V → Hp → VK → Prop := fun vs H Q => ∃ (a : Addr) (xs : List V), vs = [V.ref a] ∧ SqL K H a xs ∧ (∀ x ∈ xs, ∃ m n : Int, TupI K H x [m, n]) ∧
  ∀ (ys : List V) (p : Addr), ys.Perm xs → ys.Pairwise (fun x y => ∀ m n m' n', TupI K H x [m, n] → TupI K H y [m', n'] → le2 (m, n) (m', n')) → H p = none → Q (.ref p) (upd H p (.lst ys))
end
end L2
namespace GL
open PySem PySem.Spec PyProof.Rows L2
section
variable {K : Fg} {B S0 S1 S S' : Hp} {σ : L2.St} {H H' : Hp} {F : Nat → List Addr} {G G' G1 G2 G3 : List Sl} {ta tb tc te : TE} {i j : Nat} {u : TS} {E : Ends}
def le2b (a b : Int × Int) : Bool := decide (a.1 < b.1) || (decide (a.1 = b.1) && decide (a.2 ≤ b.2))
@[irreducible] def srt2 (xs : List (Int × Int)) : List (Int × Int) := xs.mergeSort le2b
end
end GL
namespace GL
open PySem PySem.Spec PyProof.Rows L2
section
variable {K : Fg} {B S0 S1 S S' : Hp} {σ : L2.St} {H H' : Hp} {F : Nat → List Addr} {G G' G1 G2 G3 : List Sl} {ta tb tc te : TE} {i j : Nat} {u : TS} {E : Ends}
section
variable {α : Type} [Py α]
theorem qg_ext {xs xs' ys : List α} (i : Nat) (hl : G[i]? = some (.ow xs)) (h : EvC K te G ys G1) (hl1 : G1[i]? = some (.ow xs')) (hz : xs'.length + ys.length ≤ sizeLine) (k : ∀ y, y = xs' ++ ys → At K B S0 (u E) (G1.set i (.ow y))) :
    At K B S0 (tSeq (tDrop (tBM K "list" rExtend (tVar i) (tCons te tNil))) u E) G := fun S σ H F kn => by
  obtain ⟨p, vs, h1, h2, h3, h4⟩ := own_list kn hl
  refine ⟨.ref p, h1, .inl ⟨rfl, _, SqL.of h3⟩, h B S0 S σ H F kn _ fun v S' H' e kn' r => ?_⟩
  obtain ⟨p', vs', h1', h2', h3', h4'⟩ := own_list kn' hl1
  rw [h1] at h1'
  cases h1'
  obtain ⟨q, ws, rfl, hq, hr⟩ := r.at kn'
  exact ⟨p, q, vs', ws, rfl, rfl, h3', hq, by rw [h4'.len, hr.len]; exact hz, k _ rfl S' σ _ F (own_listUpd kn' h1 h2' (h4'.app hr))⟩
end
section
variable {α β γ δ : Type} [Py α] [Py β] [Py γ] [Py δ]
def lG [Inhabited α] : Sum α β → α
  | .inl y => y
  | .inr _ => default
def rG [Inhabited β] : Sum α β → β
  | .inl _ => default
  | .inr y => y
theorem EvX.lG [Inhabited α] {x : Sum α β} (ha : EvX K ta G x G1) (h : x.isLeft = true) : EvX K ta G (GL.lG x) G1 := by
  cases x with
  | inl y => exact ha
  | inr y => exact absurd h Bool.false_ne_true
theorem EvX.rG [Inhabited β] {x : Sum α β} (ha : EvX K ta G x G1) (h : x.isRight = true) : EvX K ta G (GL.rG x) G1 := by
  cases x with
  | inl y => exact absurd h Bool.false_ne_true
  | inr y => exact ha
def sm0 : Sum (T3 α β γ) (α × δ) → α
  | .inl y => y.a
  | .inr y => y.1
def sm1 : Sum (T3 α β γ) (α × δ) → Sum β δ
  | .inl y => .inl y.b
  | .inr y => .inr y.2
def smL : Sum (T3 α β γ) (α × δ) → Sum γ δ
  | .inl y => .inl y.c
  | .inr y => .inr y.2
instance {n : String} [h : Ty α n] [Ty β n] : Ty (Sum α β) n := ⟨fun {K S H v x} e r => by
  cases x with
  | inl y => exact Ty.ty (x := y) e r
  | inr y => exact Ty.ty (x := y) e r⟩
end
end
end GL
namespace GL
open PySem PySem.Spec PyProof.Rows L2
section
variable {K : Fg} {B S0 S1 S S' : Hp} {σ : L2.St} {H H' : Hp} {F : Nat → List Addr} {G G' G1 G2 G3 : List Sl} {ta tb tc te : TE} {i j : Nat} {u : TS} {E : Ends}
variable {α β γ δ : Type} [Py α] [Py β] [Py γ] [Py δ]
class Dq (α : Type) [Py α] where
  dat : α → PyData
  ok : α → Prop
  dp : ∀ {K : Fg} {S H : Hp} {v : V} {x : α}, Same S H → Py.rep K S v x → Dp K H v (dat x)
  lay : ∀ x : α, ok x → (dat x).canLay0 = true
  dep : Nat
  dle : ∀ x : α, (dat x).depth ≤ dep
  eq : ∀ x y : α, (PyData.eqv (dat x) (dat y) = true) ↔ x = y
instance (priority := low) [Dt α] : Dq α := ⟨Dt.dat, fun _ => True, Dt.dp, fun x _ => Dt.lay x, Dt.dep α, Dt.dle, Dt.eq⟩
instance : Dq Str := ⟨PyData.str, fun x => (PyData.str x).canLay0 = true, fun _ h => by rw [show _ = V.str _ from h]; exact .str _, fun x h => h, 0, fun _ => Nat.le_refl _, fun x y => by simp [PyData.eqv]⟩
theorem dqAll [Dq α] (e : Same S H) : ∀ {vs : List V} {xs : List α}, RepL K S vs xs → DpAll K H vs (xs.map Dq.dat)
  | [], [], _ => .nil
  | _ :: _, _ :: _, h => .cons (Dq.dp e h.1) (dqAll e h.2)
  | [], _ :: _, h => h.elim
  | _ :: _, [], h => h.elim
theorem lqAll [Dq α] : ∀ xs : List α, (∀ x ∈ xs, Dq.ok x) → PyData.canLayAll0 (xs.map Dq.dat) = true
  | [], _ => rfl
  | x :: xs, h => by rw [List.map_cons, PyData.canLayAll0, Dq.lay x (h x List.mem_cons_self), lqAll xs fun y hy => h y (List.mem_cons_of_mem _ hy)]; rfl
theorem pqAll [Dq α] : ∀ xs : List α, PyData.depthAll (xs.map Dq.dat) ≤ Dq.dep α
  | [] => by rw [List.map_nil, PyData.depthAll]; exact Nat.zero_le _
  | x :: xs => by
    rw [List.map_cons, PyData.depthAll]
    have h1 := Dq.dle x
    have h2 := pqAll xs
    omega
theorem eqqAll [Dq α] : ∀ xs ys : List α, (PyData.eqvAll (xs.map Dq.dat) (ys.map Dq.dat) = true) ↔ xs = ys
  | [], [] => by simp [PyData.eqvAll]
  | [], _ :: _ => by simp [PyData.eqvAll]
  | _ :: _, [] => by simp [PyData.eqvAll]
  | x :: xs, y :: ys => by
    rw [List.map_cons, List.map_cons, PyData.eqvAll, Bool.and_eq_true, Dq.eq, eqqAll xs ys, List.cons.injEq]
instance (priority := 500) [Dq α] : Dq (List α) := ⟨fun xs => .list (xs.map Dq.dat), fun xs => ∀ x ∈ xs, Dq.ok x, fun e ⟨p, vs, h1, h2, h3⟩ => by rw [h1]; exact .lst (SqL.of (e _ _ h2)) (dqAll e h3), fun xs h => by rw [PyData.canLay0]; exact lqAll xs h, Dq.dep α + 1,
  fun xs => by rw [PyData.depth]; exact Nat.succ_le_succ (pqAll xs), fun xs ys => by rw [PyData.eqv]; exact eqqAll xs ys⟩
instance (priority := 500) [Dq α] [Dq β] : Dq (α × β) := ⟨fun x => .tuple [Dq.dat x.1, Dq.dat x.2], fun x => Dq.ok x.1 ∧ Dq.ok x.2, fun e ⟨p, a, b, h1, h2, h3, h4⟩ => by rw [h1]; exact .tup (seqT e h2) (.cons (Dq.dp e h3) (.cons (Dq.dp e h4) .nil)),
  fun x h => by simp [PyData.canLay0, PyData.canLayAll0, Dq.lay _ h.1, Dq.lay _ h.2], max (Dq.dep α) (Dq.dep β) + 1, fun x => by
    have h1 := Dq.dle x.1
    have h2 := Dq.dle x.2
    simp only [PyData.depth, PyData.depthAll]
    omega, fun x y => by
    simp only [PyData.eqv, PyData.eqvAll, Bool.and_eq_true, Dq.eq, and_true]
    exact ⟨fun h => Prod.ext h.1 h.2, fun h => by rw [h]; exact ⟨rfl, rfl⟩⟩⟩
instance (priority := 500) [Dq α] [Dq β] [Dq γ] : Dq (T3 α β γ) := ⟨fun x => .tuple [Dq.dat x.a, Dq.dat x.b, Dq.dat x.c], fun x => Dq.ok x.a ∧ Dq.ok x.b ∧ Dq.ok x.c, fun e ⟨p, a, b, c, h1, h2, h3, h4, h5⟩ => by rw [h1]; exact .tup (seqT e h2) (.cons (Dq.dp e h3) (.cons (Dq.dp e h4) (.cons (Dq.dp e h5) .nil))),
  fun x h => by simp [PyData.canLay0, PyData.canLayAll0, Dq.lay _ h.1, Dq.lay _ h.2.1, Dq.lay _ h.2.2], max (Dq.dep α) (max (Dq.dep β) (Dq.dep γ)) + 1, fun x => by
    have h1 := Dq.dle x.a
    have h2 := Dq.dle x.b
    have h3 := Dq.dle x.c
    simp only [PyData.depth, PyData.depthAll]
    omega, fun x y => by
    simp only [PyData.eqv, PyData.eqvAll, Bool.and_eq_true, Dq.eq, and_true]
    cases x; cases y
    simp⟩
end
end GL
namespace GL
open PySem PySem.Spec PyProof.Rows L2
section
variable {K : Fg} {B S0 S1 S S' : Hp} {σ : L2.St} {H H' : Hp} {F : Nat → List Addr} {G G' G1 G2 G3 : List Sl} {ta tb tc te : TE} {i j : Nat} {t u : TS} {E : Ends}
theorem el_catX {α : Type} [Py α] {xs ys : List α} (ha : EvX K ta G xs G1) (hb : EvX K tb G1 ys G2) (hz : xs.length + ys.length ≤ sizeLine) : EvL K (tOp rCat ta tb) G (xs ++ ys) G2 := fun B S0 S σ H F k Q q =>
  ha B S0 S σ H F k _ fun v S1 H1 e1 k1 r1 => hb B S0 S1 σ H1 F k1 _ fun w S2 H2 e2 k2 r2 => by
    obtain ⟨p, vs, rfl, hp, hr⟩ := Py.mono e2 r1
    obtain ⟨p', vs', rfl, hp', hr'⟩ := r2
    exact ⟨p, p', vs, vs', rfl, rfl, k2.sub _ _ hp, k2.sub _ _ hp', by rw [hr.len, hr'.len]; exact hz, fun l hl => mk_list k2 hl (hr.app hr') fun p vs S3 H3 e3 k3 a b c d r => q p vs S3 H3 ((e1.trans e2).trans e3) k3 a b c d r⟩
section
variable {tt uu : TT} {b c : Bool} {ω : Type} [Own ω] {z z' : ω}
end
theorem q_cutI {τ : Type} (γ : τ → List Sl) (I : τ → Prop) (h : At K B S0 (t { E with nx := Mid K B S0 (fun G' => ∃ s, G' = γ s ∧ I s) }) G) (k : ∀ s, I s → At K B S0 (u E) (γ s)) : At K B S0 (Evl.tCut t u E) G :=
  q_cut _ h fun G' ⟨s, e, p⟩ => by rw [e]; exact k s p
end
end GL
namespace GL
open PySem PySem.Spec PyProof.Rows L2
class PyF (α : Type) [Py α] where
  repF : Fg → Hp → Hp → V → α → Prop
  un : ∀ {K : Fg} {D S : Hp} {v : V} {x : α}, repF K D S v x → Py.rep K S v x
  mono : ∀ {K : Fg} {D S S' : Hp} {v : V} {x : α}, Same S S' → repF K D S v x → repF K D S' v x
  anti : ∀ {K : Fg} {D D' S : Hp} {v : V} {x : α}, Same D' D → repF K D S v x → repF K D' S v x
class PyT (α : Type) [Py α] [PyF α] : Prop where
  of : ∀ {K : Fg} {D S : Hp} {v : V} {x : α}, Py.rep K S v x → PyF.repF K D S v x
structure Fx (α : Type) where
  D : Hp
  x : α
@[reducible] def trivF (α : Type) [Py α] : PyF α := ⟨fun K _ S v x => Py.rep K S v x, fun h => h, fun e h => Py.mono e h, fun _ h => h⟩
instance : PyF Int := trivF Int
instance : PyF Bool := trivF Bool
instance : PyF Str := trivF Str
instance : PyF Unit := trivF Unit
instance {α : Type} [Py α] : PyF (Tp α) := trivF (Tp α)
instance : PyF (Option Int) := trivF (Option Int)
instance : PyT Int := ⟨fun h => h⟩
instance : PyT Bool := ⟨fun h => h⟩
instance : PyT Str := ⟨fun h => h⟩
instance : PyT Unit := ⟨fun h => h⟩
instance {α : Type} [Py α] : PyT (Tp α) := ⟨fun h => h⟩
instance : PyT (Option Int) := ⟨fun h => h⟩
section
variable {α β γ : Type} [Py α] [Py β] [Py γ]
instance : PyF (List α) := ⟨fun K D S v x => Py.rep K S v x ∧ ∃ p, v = .ref p ∧ D p = none, fun h => h.1, fun e h => ⟨Py.mono e h.1, h.2⟩, fun e ⟨h, p, h1, h2⟩ => ⟨h, p, h1, e.free h2⟩⟩
instance [PyF α] [PyF β] : PyF (α × β) := ⟨fun K D S v x => ∃ p a b, v = .ref p ∧ SqT K S p [a, b] ∧ PyF.repF K D S a x.1 ∧ PyF.repF K D S b x.2,
  fun ⟨p, a, b, h1, h2, h3, h4⟩ => ⟨p, a, b, h1, h2, PyF.un h3, PyF.un h4⟩, fun e ⟨p, a, b, h1, h2, h3, h4⟩ => ⟨p, a, b, h1, seqT e h2, PyF.mono e h3, PyF.mono e h4⟩, fun e ⟨p, a, b, h1, h2, h3, h4⟩ => ⟨p, a, b, h1, h2, PyF.anti e h3, PyF.anti e h4⟩⟩
instance [PyF α] [PyF β] [PyF γ] : PyF (T3 α β γ) := ⟨fun K D S v x => ∃ p a b c, v = .ref p ∧ SqT K S p [a, b, c] ∧ PyF.repF K D S a x.a ∧ PyF.repF K D S b x.b ∧ PyF.repF K D S c x.c,
  fun ⟨p, a, b, c, h1, h2, h3, h4, h5⟩ => ⟨p, a, b, c, h1, h2, PyF.un h3, PyF.un h4, PyF.un h5⟩, fun e ⟨p, a, b, c, h1, h2, h3, h4, h5⟩ => ⟨p, a, b, c, h1, seqT e h2, PyF.mono e h3, PyF.mono e h4, PyF.mono e h5⟩,
  fun e ⟨p, a, b, c, h1, h2, h3, h4, h5⟩ => ⟨p, a, b, c, h1, h2, PyF.anti e h3, PyF.anti e h4, PyF.anti e h5⟩⟩
instance [PyF α] [PyF β] : PyF (Sum α β) := ⟨fun K D S v x => match x with | .inl y => PyF.repF K D S v y | .inr y => PyF.repF K D S v y,
  fun {K D S v x} h => by cases x with | inl y => exact PyF.un (α := α) h | inr y => exact PyF.un (α := β) h, fun {K D S S' v x} e h => by cases x with | inl y => exact PyF.mono (α := α) e h | inr y => exact PyF.mono (α := β) e h,
  fun {K D D' S v x} e h => by cases x with | inl y => exact PyF.anti (α := α) e h | inr y => exact PyF.anti (α := β) e h⟩
instance [PyF α] : Py (Fx α) := ⟨fun K S v y => PyF.repF K y.D S v y.x, fun e h => PyF.mono e h⟩
end
section
variable {K : Fg} {B S0 S1 S S' D : Hp} {σ : L2.St} {H H' : Hp} {F : Nat → List Addr} {G G' G1 G2 G3 : List Sl} {ta tb tc te : TE} {i j : Nat} {t u : TS} {E : Ends}
section
variable {α β γ : Type} [Py α] [Py β] [Py γ] [PyF α] [PyF β] [PyF γ] {x : α} {y : β} {z : γ}
theorem EvX.unF {w : Fx α} (h : EvX K te G w G1) : EvX K te G w.x G1 := fun B S0 S σ H F k Q q => h B S0 S σ H F k Q fun v S' H' e k' r => q v S' H' e k' (PyF.un r)
theorem EvX.toF {δ : Type} [Py δ] [PyF δ] [PyT δ] {x : δ} (D : Hp) (h : EvX K te G x G1) : EvX K te G (Fx.mk D x) G1 := fun B S0 S σ H F k Q q => h B S0 S σ H F k Q fun v S' H' e k' r => q v S' H' e k' (PyT.of r)
theorem ev_pairF (ha : EvX K ta G (Fx.mk D x) G1) (hb : EvX K tb G1 (Fx.mk D y) G2) : EvX K (tTup (tCons ta (tCons tb tNil))) G (Fx.mk D ((x, y) : α × β)) G2 := fun B S0 S σ H F k Q q =>
  ha B S0 S σ H F k _ fun v S1 H1 e1 k1 r1 => hb B S0 S1 σ H1 F k1 _ fun u S2 H2 e2 k2 r2 => ⟨by show 2 ≤ sizeLine; decide, fun p hp => by
    have e3 := same_new (o := .tup [v, u]) (k2.free hp).1
    exact q (.ref p) _ _ ((e1.trans e2).trans e3) (k2.new hp) ⟨p, v, u, rfl, SqT.of upd_same, PyF.mono (e2.trans e3) r1, PyF.mono e3 r2⟩⟩
theorem ev_t3F (ha : EvX K ta G (Fx.mk D x) G1) (hb : EvX K tb G1 (Fx.mk D y) G2) (hc : EvX K tc G2 (Fx.mk D z) G3) : EvX K (tTup (tCons ta (tCons tb (tCons tc tNil)))) G (Fx.mk D (T3.mk x y z)) G3 := fun B S0 S σ H F k Q q =>
  ha B S0 S σ H F k _ fun v S1 H1 e1 k1 r1 => hb B S0 S1 σ H1 F k1 _ fun u S2 H2 e2 k2 r2 => hc B S0 S2 σ H2 F k2 _ fun w S3 H3 e3 k3 r3 => ⟨by show 3 ≤ sizeLine; decide, fun p hp => by
    have e4 := same_new (o := .tup [v, u, w]) (k3.free hp).1
    exact q (.ref p) _ _ (((e1.trans e2).trans e3).trans e4) (k3.new hp) ⟨p, v, u, w, rfl, SqT.of upd_same, PyF.mono ((e2.trans e3).trans e4) r1, PyF.mono (e3.trans e4) r2, PyF.mono e4 r3⟩⟩
theorem at_relF {δ : Type} [Py δ] {x : List δ} {i : Nat} {P : L2.St → Hp → Prop} (h : G[i]? = some (.ow x)) (q : At K B S0 P (G.set i (.im (Fx.mk B x)))) : At K B S0 P G := fun S σ H F k => by
  obtain ⟨S', e, k'⟩ := k.relL h
  obtain ⟨v, hv, p, vs, rfl, hp, h1, h2⟩ := k.ow h
  obtain ⟨hs, hb, _⟩ := k.off i p (by rw [hp]; exact List.mem_singleton.mpr rfl)
  refine q S' σ H (upF F i []) ?_
  have hl : i < G.length := (List.getElem?_eq_some_iff.mp h).1
  obtain ⟨w, hw, rw_⟩ := k'.im (x := x) (i := i) (List.getElem?_set_self hl)
  rw [hv] at hw
  cases hw
  have k3 := k'.set (i := i) (v := .ref p) (x := Fx.mk B x) ⟨rw_, p, rfl, hb⟩ (by rw [List.getElem?_set_self hl]; rfl)
  have e1 : σ.set i (some (.ref p)) = σ := by
    apply List.ext_getElem?
    intro j
    by_cases e : i = j
    · subst e
      rw [List.getElem?_set_self (by rw [← k.len]; exact hl)]
      exact hv.symm
    · rw [List.getElem?_set_ne e]
  rw [e1, List.set_set] at k3
  exact k3
end
def spN {α β : Type} [PyA α] [Py β] [PyF β] (K : Fg) (f : α → β) (pre : α → Prop) : Sp := fun vs H Q _ => ∃ (S : Hp) (a : α), Same S H ∧ PyA.rep K S vs a ∧ pre a ∧ ∀ v S' H', Grow S H S' H' → PyF.repF K H S' v (f a) → Q v H'
section
variable {α β : Type} [PyA α] [Py β] [PyF β] {f : α → β} {pre : α → Prop} {a : α} {t : TA} {E : XK} {g : TG} {D : Ends}
theorem ev_callN (ha : EvA K t G a G1) (hp : pre a) : EvX K (tCall (spN K f pre) [] E t) G (f a) G1 := fun B S0 S σ H F k Q q =>
  ha B S0 S σ H F k _ fun vs S1 H1 e1 k1 r1 => by
    rw [List.append_nil]
    exact ⟨S1, a, k1.sub, r1, hp, fun v S2 H2 g r2 => q v S2 H2 (e1.trans g.s) (k1.grow g) (PyF.un r2)⟩
theorem q_retN (ha : EvA K t G a G1) (hp : pre a) (k : ∀ y, y = f a → RT K B S0 D.rt (Fx.mk B y) G1) : At K B S0 (tSeq (tRet (tCall (spN K f pre) [] E t)) u D) G := fun S σ H F kn =>
  ha B S0 S σ H F kn _ fun vs S1 H1 e1 k1 r1 => by
    show spN K f pre (vs ++ []) H1 _ E
    rw [List.append_nil]
    exact ⟨S1, a, k1.sub, r1, hp, fun v S2 H2 g r2 => k _ rfl S2 σ H2 F v (k1.grow g) (PyF.anti k1.keep r2)⟩
end
section
variable {P : Program} {w : World} {mg : Str → Option Value} {base : Heap} {α β : Type} [Sls α] [Py β] [PyF β]
theorem def_spN {x : Str} {st : Stmt} {N ps : List Str} {k : Nat} {f : α → β} {pre : α → Prop} (D : Def K mg x st ps) (S : FnScope N ps (defScope st)) (hn : PyA.n α = ps.length)
    (h : ∀ (fa : Addr) (cdv : Value) (A : Around) (outer : List Env) (s : Shared) (H : Hp) (E : XK), Room k (A.deeper (envOfC x (defScope st) s.heap.objs.size fa cdv)) →
      ∃ t, PSs (cxOf CX0 P w K mg base N x (defScope st) fa cdv A outer s H E).nox (defBody st) t ∧
        ∀ (a : α), pre a → ∀ (B S0 : Hp) (Q : VK), (∀ G' y, y = f a → RT K B S0 Q (Fx.mk B y) G') → At K B S0 (t { nx := fun _ H' => Q .non H', rt := Q }) (Sls.sls a ++ List.replicate (N.length - PyA.n α) .no)) :
    Cal P w K mg base (k + 1) x ps (spN K f pre) := by
  obtain ⟨fa, fd, m, F, b⟩ := D.ex
  refine ⟨fa, fd, m, F.ok S (fun vs H Q E ⟨S, a, _, r, _⟩ => (PyA.len r).trans hn) fun cdv A outer s H vs Q E hr ⟨S', a, e, r, hp, q⟩ => ?_, F.kp, b⟩
  obtain ⟨t, h1, h2⟩ := h fa cdv A outer s H E hr
  refine ⟨t, h1, h2 a hp H S' Q (fun G' y ey S1 σ1 H1 F1 v k1 r1 => ?_) S' _ H _ (start_kn e r)⟩
  subst ey
  exact q v S1 H1 ⟨k1.s0, k1.sub, k1.keep, k1.clean⟩ r1
end
structure At1 (α : Type) where
  S : Hp
  x : α
instance {α : Type} [Py α] : Py (At1 α) := ⟨fun K S v y => Py.rep K y.S v y.x ∧ Same y.S S, fun e h => ⟨h.1, h.2.trans e⟩⟩
theorem EvX.th {α : Type} [Py α] {w : At1 α} (h : EvX K te G w G1) : EvX K te G w.x G1 := fun B S0 S σ H F k Q q => h B S0 S σ H F k Q fun v S' H' e k' r => q v S' H' e k' (Py.mono r.2 r.1)
def frz (S : Hp) : Sl → Sl
  | .no => .no
  | @Sl.im _ i x => @Sl.im _ (@instPyAt1 _ i) (At1.mk S x)
  | @Sl.ow _ i x => @Sl.ow _ i x
theorem Kn.frz (k : Kn K B S0 S σ H F G) : Kn K B S S σ H F (G.map (GL.frz S)) := by
  have k1 := k.reb
  refine ⟨k1.s0, k1.sub, k1.keep, k1.clean, k1.off, k1.dj, by rw [List.length_map]; exact k1.len, fun i s e => ?_⟩
  rw [List.getElem?_map] at e
  cases q : G[i]? with
  | none => rw [q] at e; cases e
  | some s0 =>
    rw [q] at e
    cases e
    have z := k1.sl i s0 q
    cases s0 with
    | no => exact True.intro
    | im x =>
      obtain ⟨v, h1, h2⟩ := z
      exact ⟨v, h1, h2, Same.refl _⟩
    | ow x => exact z
class OwnI (ω : Type) [Own ω] : Prop where
  go : ∀ {K : Fg} {S S' H : Hp} {v : V} {ps : List Addr} {x : ω}, Own.own K S H v ps x → Own.own K S' H v ps x
instance : OwnI Spr := ⟨fun h => h⟩
instance : OwnI (List Int) := ⟨fun {K S S' H v ps x} ⟨p, vs, h1, h2, h3, h4⟩ => ⟨p, vs, h1, h2, h3, by rw [h4.ints]; exact RepL.of_ints x⟩⟩
inductive Thw (S : Hp) : List Sl → List Sl → Prop
  | n : Thw S [] []
  | k {α : Type} [Py α] {x : α} {G G' : List Sl} : Thw S G G' → Thw S (.im (At1.mk S x) :: G) (.im (At1.mk S x) :: G')
  | o {α : Type} [Own α] [OwnI α] {x : α} {G G' : List Sl} : Thw S G G' → Thw S (.ow x :: G) (.ow x :: G')
  | d {s : Sl} {G G' : List Sl} : Thw S G G' → Thw S (.no :: G) (s :: G')
theorem Thw.len {G G' : List Sl} (h : Thw S G G') : G.length = G'.length := by
  induction h with
  | n => rfl
  | k _ ih => rw [List.length_cons, List.length_cons, ih]
  | o _ ih => rw [List.length_cons, List.length_cons, ih]
  | d _ ih => rw [List.length_cons, List.length_cons, ih]
theorem Thw.ok {S2 : Hp} {G G' : List Sl} (t : Thw S G G') : ∀ (f : Nat → Option (Option V)) (F : Nat → List Addr) (H' : Hp), (∀ i p, p ∈ F i → H' p = H p) → (∀ i s, G'[i]? = some s → SlOk K S2 H (f i) (F i) s) → ∀ i s, G[i]? = some s → SlOk K S H' (f i) (F i) s := by
  induction t with
  | n => intro f F H' hH h i s e; simp at e
  | k t ih =>
    intro f F H' hH h i s e
    cases i with
    | zero =>
      simp only [List.getElem?_cons_zero, Option.some.injEq] at e
      subst e
      obtain ⟨v, h1, h2, h3⟩ := h 0 _ rfl
      exact ⟨v, h1, h2, Same.refl _⟩
    | succ i => exact ih (fun i => f (i + 1)) (fun i => F (i + 1)) H' (fun i p hp => hH (i + 1) p hp) (fun i s e => h (i + 1) s (by simpa using e)) i s (by simpa using e)
  | o t ih =>
    intro f F H' hH h i s e
    cases i with
    | zero =>
      simp only [List.getElem?_cons_zero, Option.some.injEq] at e
      subst e
      obtain ⟨v, h1, h2⟩ := h 0 _ rfl
      exact ⟨v, h1, Own.mono (Same.refl _) (fun p hp => hH 0 p hp) (OwnI.go h2)⟩
    | succ i => exact ih (fun i => f (i + 1)) (fun i => F (i + 1)) H' (fun i p hp => hH (i + 1) p hp) (fun i s e => h (i + 1) s (by simpa using e)) i s (by simpa using e)
  | d t ih =>
    intro f F H' hH h i s e
    cases i with
    | zero =>
      simp only [List.getElem?_cons_zero, Option.some.injEq] at e
      subst e
      exact True.intro
    | succ i => exact ih (fun i => f (i + 1)) (fun i => F (i + 1)) H' (fun i p hp => hH (i + 1) p hp) (fun i s e => h (i + 1) s (by simpa using e)) i s (by simpa using e)
section
variable {α : Type} [Py α] {xs : List α} {D : Ends}
end
section
variable {α τ : Type} [Py α] {wi : TI} {g : TG} {tb : TS} {xs : List α}
end
end
end GL
set_option maxHeartbeats 4000000
namespace L2
open PySem PySem.Spec PyProof.Rows
def Two (h : Heap) (v : Value) (m n : Int) : Prop := ∃ (t : Addr) (o : Obj) (c : Nat) (u1 u2 : Tok), v = .ref t ∧ h.get? t = some o ∧ o.cls = .type "tuple" ∧ o.data = .seq #[Value.int m u1, Value.int n u2] c
section
variable {prog : Program} {w : World} {A : Around} {E : Value → Shared → Prop} {s : Shared}
end
section
variable {P : Program} {w : World} {A : Around} {E : Value → Shared → Prop} {s : Shared}
theorem Two.keep {h h' : Heap} {v : Value} {m n : Int} (k : ∀ b o, h.get? b = some o → h'.get? b = some o) (x : Two h v m n) : Two h' v m n := by
  obtain ⟨t, o, c, u1, u2, e, h1, h2⟩ := x
  exact ⟨t, o, c, u1, u2, e, k t o h1, h2⟩
end
section
variable {X : Cx}
def tSortSet2 (K : PySem.W.Frag) (ta : TE) : TE := fun σ H Q => ta σ H fun x H1 => ∃ (l : Addr) (xs : List V), x = V.ref l ∧ SqL K H1 l xs ∧ xs.length < 64 ∧ (∀ x ∈ xs, ∃ m n : Int, TupI K H1 x [m, n]) ∧
  ∀ (ys : List V) (p : Addr), (∀ y ∈ ys, y ∈ xs) → (∀ x ∈ xs, ∀ m n, TupI K H1 x [m, n] → ∃ y ∈ ys, ∀ m' n', TupI K H1 y [m', n'] → (m', n') = (m, n)) → ys.Pairwise (fun x y => ∀ m n m' n', TupI K H1 x [m, n] → TupI K H1 y [m', n'] → le2 (m, n) (m', n') ∧ (m, n) ≠ (m', n')) → ys.length < 64 → H1 p = none → Q (.ref p) (upd H1 p (.lst ys))
end
end L2
namespace GL
open PySem PySem.Spec PyProof.Rows L2
section
variable {K : Fg} {B S0 S1 S S' : Hp} {σ : L2.St} {H H' : Hp} {F : Nat → List Addr} {G G' G1 G2 G3 : List Sl} {ta tb tc te : TE} {i j : Nat} {u : TS} {E : Ends}
def lt2 (a b : Int × Int) : Prop := a.1 < b.1 ∨ (a.1 = b.1 ∧ a.2 < b.2)
@[irreducible] def usrt2 (xs : List (Int × Int)) : List (Int × Int) := srt2 xs.eraseDups
end
end GL
namespace GL
open PySem PySem.Spec PyProof.Rows L2
section
variable {K : Fg} {B S0 S1 S S' D : Hp} {σ : L2.St} {H H' : Hp} {F : Nat → List Addr} {G G' G1 G2 G3 : List Sl} {ta tb tc te : TE} {i j : Nat} {t u : TS} {E : Ends}
section
variable {α β γ δ : Type} [Py α] [Py β] [Py γ] [Py δ] [PyF α] [PyF β] [PyF γ] [PyF δ] {g1 g2 g3 : TG} {t1 t2 t3 : List Nat}
end
section
variable {α β ω : Type} [Py α] [Py β] [Py ω] {D : Ends}
end
def EvOS (K : Fg) (t : TO) (G : List Sl) (o : Option Int) (G' : List Sl) : Prop := ∀ B S0 S σ H F, Kn K B S0 S σ H F G → ∀ Q : Option Int → Hp → Prop, (∀ S' H', Same S S' → Kn K B S0 S' σ H' F G' → Q o H') → t σ H Q
end
end GL
namespace GL
open PySem PySem.Spec PyProof.Rows L2
structure Pen where
  a : Addr
  q : Addr
  l : List Int
  p : Nat
  w : Int
instance : Own Pen := ⟨fun K S H v ps x => v = .ref x.a ∧ ps = [x.a, x.q] ∧ H x.a = some (.lst [.ref x.q, .int x.p, .int x.w]) ∧ H x.q = some (.lst (x.l.map V.int)), fun {K S S' H H' v ps x} e a ⟨h1, h2, h3, h4⟩ =>
  ⟨h1, h2, by rw [a x.a (by rw [h2]; simp)]; exact h3, by rw [a x.q (by rw [h2]; simp)]; exact h4⟩⟩
instance : Anch Pen := ⟨fun x => (.ref x.a, [x.a, x.q]), fun ⟨h1, h2, _⟩ => by rw [h1, h2]⟩
instance : OwnI Pen := ⟨fun h => h⟩
section
variable {K : Fg} {B S0 S1 S S' D : Hp} {σ : L2.St} {H H' : Hp} {F : Nat → List Addr} {G G' G1 G2 G3 : List Sl} {ta tb tc te : TE} {i j : Nat} {t u : TS} {E : Ends}
theorem Kn.setOwns {α : Type} [Own α] {x : α} {v : V} {i : Nat} {ps : List Addr} (k : Kn K B S0 S σ H F G) (r : Own.own K S H v ps x) (hi : G[i]?.isSome = true) (hp : ∀ p ∈ ps, S p = none ∧ B p = none ∧ (∃ o, H p = some o) ∧ ∀ j, p ∉ F j) :
    Kn K B S0 S (σ.set i (some v)) H (upF F i ps) (G.set i (.ow x)) := by
  have hl := isSome_lt hi
  refine ⟨k.s0, k.sub, k.keep, k.clean, fun j q hq => ?_, fun a b q ha hb' => ?_, by rw [List.length_set, List.length_set]; exact k.len, fun j s e => ?_⟩
  · by_cases e : j = i
    · subst e
      rw [upF_self] at hq
      exact ⟨(hp q hq).1, (hp q hq).2.1, (hp q hq).2.2.1⟩
    · rw [upF_ne e] at hq
      exact k.off j q hq
  · by_cases ea : a = i
    · by_cases eb : b = i
      · rw [ea, eb]
      · rw [ea, upF_self] at ha
        rw [upF_ne eb] at hb'
        exact absurd hb' ((hp q ha).2.2.2 b)
    · rw [upF_ne ea] at ha
      by_cases eb : b = i
      · rw [eb, upF_self] at hb'
        exact absurd ha ((hp q hb').2.2.2 a)
      · rw [upF_ne eb] at hb'
        exact k.dj a b q ha hb'
  · rcases set_get e with ⟨rfl, rfl⟩ | ⟨ne, e⟩
    · rw [upF_self]
      exact ⟨v, List.getElem?_set_self (by rw [← k.len]; exact hl), r⟩
    · rw [List.getElem?_set_ne (fun z => ne z.symm), upF_ne ne]
      exact k.sl j s e
variable {z : Pen}
theorem ev_pen1 (hi : G[i]? = some (.ow z)) : EvX K (tOp (rIxL K) (tVar i) (tC (.int 1))) G (z.p : Int) G := fun B S0 S σ H F k Q q => by
  obtain ⟨v, h1, h2, h3, h4, h5⟩ := k.ow hi
  exact ⟨v, h1, z.a, _, 1, .int z.p, h2, rfl, SqL.of h4, atI_nat (j := 1) rfl, q _ S H (Same.refl _) k rfl⟩
theorem ev_pen2 (hi : G[i]? = some (.ow z)) : EvX K (tOp (rIxL K) (tVar i) (tC (.int 2))) G z.w G := fun B S0 S σ H F k Q q => by
  obtain ⟨v, h1, h2, h3, h4, h5⟩ := k.ow hi
  exact ⟨v, h1, z.a, _, 2, .int z.w, h2, rfl, SqL.of h4, atI_nat (j := 2) rfl, q _ S H (Same.refl _) k rfl⟩
theorem ev_penLen (hi : G[i]? = some (.ow z)) : EvX K (tCB (rLenS K) (tCons (tOp (rIxL K) (tVar i) (tC (.int 0))) tNil)) G (z.l.length : Int) G := fun B S0 S σ H F k Q q => by
  obtain ⟨v, h1, h2, h3, h4, h5⟩ := k.ow hi
  exact ⟨v, h1, z.a, _, 0, .ref z.q, h2, rfl, SqL.of h4, atI_nat (j := 0) rfl, z.q, _, rfl, .inl (SqL.of h5), q _ S H (Same.refl _) k (by rw [List.length_map]; rfl)⟩
theorem ev_penAt {n : Int} (hi : G[i]? = some (.ow z)) (hb : EvX K tb G n G) (h : 0 ≤ n ∧ n < z.l.length) : EvX K (tOp (rIxL K) (tOp (rIxL K) (tVar i) (tC (.int 0))) tb) G (ix z.l n) G := fun B S0 S σ H F k Q q => by
  obtain ⟨v, h1, h2, h3, h4, h5⟩ := k.ow hi
  refine ⟨v, h1, z.a, _, 0, .ref z.q, h2, rfl, SqL.of h4, atI_nat (j := 0) rfl, hb B S0 S σ H F k _ fun w S2 H2 e2 k2 r2 => ?_⟩
  obtain ⟨v', h1', h2', h3', h4', h5'⟩ := k2.ow hi
  refine ⟨z.q, _, n, .int (ix z.l n), rfl, r2, SqL.of h5', atI_of h.1 ?_, q _ S2 H2 e2 k2 rfl⟩
  rw [List.getElem?_map, ix_at h.1 h.2]
  rfl
theorem pen_upd {v : V} {p : Nat} {w : Int} (k : Kn K B S0 S σ H F G) (hi : G[i]? = some (.ow z)) : Kn K B S0 S σ (upd H z.a (.lst [.ref z.q, .int p, .int w])) F (G.set i (.ow (Pen.mk z.a z.q z.l p w))) := by
  obtain ⟨v, h1, h2, h3, h4, h5⟩ := k.ow hi
  have ne : z.q ≠ z.a := fun e => by
    rw [e, h4] at h5
    injection h5 with h5
    injection h5 with h5
    cases hl : z.l with
    | nil => rw [hl] at h5; cases h5
    | cons x l => rw [hl] at h5; injection h5 with h6; cases h6
  refine k.mut h1 (fun q hq => upd_ne fun e => hq (by rw [h3, e]; simp)) (fun q hq => ?_) ⟨h2, h3, upd_same, by rw [upd_ne ne]; exact h5⟩
  by_cases e : q = z.a
  · exact ⟨_, by rw [e]; exact upd_same⟩
  · obtain ⟨_, _, o, h⟩ := k.off i q hq
    exact ⟨o, by rw [upd_ne e]; exact h⟩
theorem q_pen1 {n : Int} (p : Nat) (h : EvX K te G n G) (hi : G[i]? = some (.ow z)) (hn : n = (p : Int)) (k : At K B S0 (u E) (G.set i (.ow (Pen.mk z.a z.q z.l p z.w)))) : At K B S0 (tSeq (tAsg te (gSub (tVar i) (tC (.int 1)) rSetL)) u E) G := fun S σ H F kn =>
  h B S0 S σ H F kn _ fun v S1 H1 e1 k1 r1 => by
    obtain ⟨w, h1, h2, h3, h4, h5⟩ := k1.ow hi
    refine ⟨w, h1, z.a, _, 1, 1, h2, rfl, h4, rfl, k S1 σ _ F ?_⟩
    rw [show v = .int n from r1, hn]
    exact pen_upd (v := w) k1 hi
theorem q_pen2 {n : Int} (h : EvX K te G n G) (hi : G[i]? = some (.ow z)) (k : At K B S0 (u E) (G.set i (.ow (Pen.mk z.a z.q z.l z.p n)))) : At K B S0 (tSeq (tAsg te (gSub (tVar i) (tC (.int 2)) rSetL)) u E) G := fun S σ H F kn =>
  h B S0 S σ H F kn _ fun v S1 H1 e1 k1 r1 => by
    obtain ⟨w, h1, h2, h3, h4, h5⟩ := k1.ow hi
    refine ⟨w, h1, z.a, _, 2, 2, h2, rfl, h4, rfl, k S1 σ _ F ?_⟩
    rw [show v = .int n from r1]
    exact pen_upd (v := w) k1 hi
theorem el_sliceS {xs : Scr} {tl th : TO} {lo hi : Option Int} (h : EvX K ta G xs G) (hl : EvO K tl G lo) (hh : EvO K th G hi) : EvL K (tSl (rSlL K) ta tl th) G (cutL xs.l lo hi) G := fun B S0 S σ H F k Q q =>
  h B S0 S σ H F k _ fun v S1 H1 e1 k1 r1 => hl B S0 S1 σ H1 F k1 _ fun S2 H2 e2 k2 => hh B S0 S2 σ H2 F k2 _ fun S3 H3 e3 k3 => by
    obtain ⟨p, rfl, hp⟩ := Py.mono (e2.trans e3) r1
    exact ⟨p, _, rfl, k3.sub.seq hp, fun l hl => mk_list k3 hl ((RepL.of_ints xs.l).cut lo hi) fun p vs S4 H4 e4 k4 a b c d r => q p vs S4 H4 (((e1.trans e2).trans e3).trans e4) k4 a b c d r⟩
end
def spPen (K : Fg) : Sp := fun vs H Q _ => ∃ (S : Hp) (a : Scr × Unit), Same S H ∧ PyA.rep K S vs a ∧ a.1.l.length ≤ 63 ∧ ∀ (l : List Int) (p q : Addr) (S' H' : Hp), Grow S H S' H' → l.length ≤ 63 → H p = none → S' p = none → H q = none → S' q = none → H' p = some (.lst [.ref q, .int 0, .int 0]) → H' q = some (.lst (l.map V.int)) → Q (.ref p) H'
section
variable {P : Program} {w : World} {K : Fg} {mg : Str → Option Value} {base : Heap} {B S0 : Hp} {G G1 : List Sl} {t : TA} {E : XK} {u : TS} {D : Ends} {te : TE}
theorem def_pen {x : Str} {st : Stmt} {N ps : List Str} {k : Nat} (D : Def K mg x st ps) (S : FnScope N ps (defScope st)) (hn : 1 = ps.length)
    (h : ∀ (fa : Addr) (cdv : Value) (A : Around) (outer : List Env) (s : Shared) (H : Hp) (E : XK), Room k (A.deeper (envOfC x (defScope st) s.heap.objs.size fa cdv)) →
      ∃ t, PSs (cxOf CX0 P w K mg base N x (defScope st) fa cdv A outer s H E).nox (defBody st) t ∧
        ∀ (scr : Scr), scr.l.length ≤ 63 → ∀ (B S0 : Hp) (Q : VK), (∀ (l : List Int) (G' : List Sl) S σ H F p q, l.length ≤ 63 → Kn K B S0 S σ H F G' → S p = none → B p = none → S q = none → B q = none → H p = some (.lst [.ref q, .int 0, .int 0]) → H q = some (.lst (l.map V.int)) → Q (.ref p) H) →
          At K B S0 (t { nx := fun _ H' => Q .non H', rt := Q }) (.im scr :: List.replicate (N.length - 1) .no)) :
    Cal P w K mg base (k + 1) x ps (spPen K) := by
  obtain ⟨fa, fd, m, Fu, b⟩ := D.ex
  refine ⟨fa, fd, m, Fu.ok S (fun vs H Q E ⟨S, a, _, r, _⟩ => (PyA.len r).trans hn) fun cdv A outer s H vs Q E hr ⟨S', a, e, r, hp, q⟩ => ?_, Fu.kp, b⟩
  obtain ⟨t, h1, h2⟩ := h fa cdv A outer s H E hr
  obtain ⟨scr, un⟩ := a
  refine ⟨t, h1, h2 scr hp H S' Q (fun l G' S1 σ1 H1 F1 p q' hl k1 a1 a2 a3 a4 a5 a6 => ?_) S' _ H _ (start_kn e r)⟩
  exact q l p q' S1 H1 ⟨k1.s0, k1.sub, k1.keep, k1.clean⟩ hl a2 a1 a4 a3 a5 a6
theorem q_retPen {xs : List Int} (h : EvL K te G xs G1) (k : ∀ S σ H F p q, Kn K B S0 S σ H F G1 → S p = none → B p = none → S q = none → B q = none → H p = some (.lst [.ref q, .int 0, .int 0]) → H q = some (.lst (xs.map V.int)) → D.rt (.ref p) H) :
    At K B S0 (tSeq (tRet (tLst (tCons te (tCons (tC (.int 0)) (tCons (tC (.int 0)) tNil))))) u D) G := fun S σ H F kn =>
  h B S0 S σ H F kn _ fun q vs S' H' e kn' hs hb hf hp r => ⟨by show 3 ≤ sizeLine; decide, fun p hn => by
    rw [r.ints] at hp
    have ne : q ≠ p := ne_of_none hp hn
    obtain ⟨a, b, c⟩ := kn'.free hn
    exact k S' σ _ F p q (kn'.raw hn) a b hs hb upd_same (by rw [upd_ne ne]; exact hp)⟩
theorem q_pen (i : Nat) {scr : Scr} (ha : EvA K t G (scr, ()) G1) (hp : scr.l.length ≤ 63) (hi : G1[i]?.isSome = true) (k : ∀ s : Pen, s.l.length ≤ 63 → At K B S0 (u D) (G1.set i (.ow s))) : At K B S0 (tSeq (tAsg (tCall (spPen K) [] E t) (gName i)) u D) G := fun S σ H F kn =>
  ha B S0 S σ H F kn _ fun vs S1 H1 e1 k1 r1 => by
    show spPen K (vs ++ []) H1 _ E
    rw [List.append_nil]
    refine ⟨S1, _, k1.sub, r1, hp, fun l p q S2 H2 g hl n1 n2 n3 n4 n5 n6 => ?_⟩
    obtain ⟨_, b, c⟩ := k1.free n1
    obtain ⟨_, b', c'⟩ := k1.free n3
    refine k ⟨p, q, l, 0, 0⟩ hl S2 _ H2 _ ((k1.grow g).setOwns (v := .ref p) (x := Pen.mk p q l 0 0) (ps := [p, q]) ⟨rfl, rfl, n5, n6⟩ hi fun x hx => ?_)
    rcases List.mem_cons.mp hx with e | e
    · rw [e]; exact ⟨n2, b, ⟨_, n5⟩, c⟩
    · rw [List.mem_singleton.mp e]; exact ⟨n4, b', ⟨_, n6⟩, c'⟩
end
def cellM (l : List Int) (p : Nat) : Int := if decide ((p : Int) < (l.length : Int)) = true then ix l (p : Int) else if decide (0 < (l.length : Int)) = true then ix l ((p : Int) * 5 % (l.length : Int)) % 1000003 + 89 * (p : Int) else 0
def oneM (c : Int) (p : Nat) : Int := (c % 1000000007 + 61 * (p : Int) + 1) * 16807 % 2147483647
def twoM (c : Int) (p : Nat) : Int := (oneM c p * oneM c p + 48271 * (p : Int) + 3) % 998244353
def drawM (c : Int) (p : Nat) : Int := if decide ((10 : Int) ^ (18 : Int).toNat ≤ c) = true then c / (10 : Int) ^ (18 : Int).toNat else (twoM c p * 1000000007 + (twoM c p * twoM c p + oneM c p) % 1000000007) / 32 + 1
def fillM (z : Pen) : Pen := if decide (z.w = 0) = true then ⟨z.a, z.q, z.l, z.p + 1, drawM (cellM z.l z.p) z.p⟩ else z
@[irreducible] def penTake (z : Pen) (m : Int) : Int × Pen := ((fillM z).w % m, ⟨(fillM z).a, (fillM z).q, (fillM z).l, (fillM z).p, (fillM z).w / m⟩)
theorem pen_bd (z : Pen) {m : Int} (h : 0 < m) : 0 ≤ (penTake z m).1 ∧ (penTake z m).1 < m := by
  unfold penTake
  exact ⟨Int.emod_nonneg _ (by omega), Int.emod_lt_of_pos _ h⟩
theorem pen_fp (z : Pen) (m : Int) : Anch.fp (penTake z m).2 = Anch.fp z := by
  unfold penTake fillM
  dsimp only [Anch.fp]
  split <;> rfl
theorem pen_fact {z z' : Pen} {m : Int} (_ : z' = (penTake z m).2) (h : 0 < m) : 0 ≤ (penTake z m).1 ∧ (penTake z m).1 < m := pen_bd z h
end GL
namespace GL
open PySem PySem.Spec PyProof.Rows L2
abbrev spRP {α β : Type} [PyA α] [Py β] (K : Fg) (R : α → β → Prop) (pre : α → Prop) : Sp := spR (ω := Pen) K Pen R pre
section
variable {K : Fg} {B S0 : Hp} {G G1 : List Sl} {u : TS} {D : Ends} {α β : Type} [PyA α] [Py β] {R : α → β → Prop} {pre : α → Prop} {z z1 : Pen} {a : α} {t : TA} {E : XK} {g : TG}
theorem q_relP (j : Nat) (hj : G[j]? = some (.ow z)) (ha : EvA K t G a G1) (hj1 : G1[j]? = some (.ow z1)) (hp : pre a) (k : ∀ y (z' : Pen), R a y → Anch.fp z' = Anch.fp z1 → ∃ G2 ts, TgG K g y (G1.set j (.ow z')) G2 ts ∧ At K B S0 (u D) G2) :
    At K B S0 (tSeq (tAsg (tCall (spRP K R pre) [] E (tCons (tVar j) t)) g) u D) G := fun S σ H F kn => by
  obtain ⟨v0, h1, h2⟩ := kn.ow hj
  refine ⟨v0, h1, ha B S0 S σ H F kn _ fun vs S1 H1 e1 k1 r1 => ?_⟩
  show spRP K R pre (v0 :: vs ++ []) H1 _ E
  rw [List.append_nil]
  obtain ⟨v1, h3, h4⟩ := k1.ow hj1
  rw [h1] at h3
  cases h3
  refine ⟨S1, v0, vs, F j, z1, a, rfl, k1.sub, h4, fun p hp => ⟨(k1.off j p hp).1, (k1.off j p hp).2.2⟩, r1, hp, fun v S2 H2 y z' hR hfp s1 s2 hk hc hl ho r2 => ?_⟩
  have hH : ∀ p o, p ∉ F j → H1 p = some o → H2 p = some o := hk
  have k2 : Kn K B S0 S2 σ H2 F (G1.set j (.ow z')) := by
    refine ⟨k1.s0.trans s1, s2, fun p o e => ?_, fun p o e => (hc p o (k1.keep p o e)).trans (k1.clean p o e), fun i p hp => ?_, k1.dj, by rw [List.length_set]; exact k1.len, fun i s e => ?_⟩
    · exact hH p o (fun m => by rw [(k1.off j p m).2.1] at e; cases e) (k1.keep p o e)
    · obtain ⟨a1, a2, o, a3⟩ := k1.off i p hp
      refine ⟨(hc p o a3).trans a1, a2, ?_⟩
      by_cases m : p ∈ F j
      · exact hl p m
      · exact ⟨o, hH p o m a3⟩
    · rcases set_get e with ⟨rfl, rfl⟩ | ⟨ne, e⟩
      · exact ⟨v0, h1, ho⟩
      · have w := k1.sl i s e
        cases s with
        | no => exact True.intro
        | im y =>
          obtain ⟨u, b1, b2⟩ := w
          exact ⟨u, b1, Py.mono s1 b2⟩
        | ow y =>
          obtain ⟨u, b1, b2⟩ := w
          refine ⟨u, b1, Own.mono s1 (fun p hp => ?_) b2⟩
          obtain ⟨_, _, o, a3⟩ := k1.off i p hp
          rw [a3]
          exact hH p o (fun m => ne (k1.dj i j p hp m)) a3
  obtain ⟨G2, ts, tg, hat⟩ := k y z' hR hfp
  exact tg.2 B S0 S2 σ H2 F v k2 r2 _ fun σ' k3 _ _ => hat S2 σ' H2 F k3
end
section
variable {P : Program} {w : World} {K : Fg} {mg : Str → Option Value} {base : Heap} {α β : Type} [Sls α] [Py β]
theorem def_spRP {x : Str} {st : Stmt} {N ps : List Str} {k : Nat} {R : α → β → Prop} {pre : α → Prop} (D : Def K mg x st ps) (S : FnScope N ps (defScope st)) (hn : PyA.n α + 1 = ps.length)
    (h : ∀ (fa : Addr) (cdv : Value) (A : Around) (outer : List Env) (s : Shared) (H : Hp) (E : XK), Room k (A.deeper (envOfC x (defScope st) s.heap.objs.size fa cdv)) →
      ∃ t, PSs (cxOf CX0 P w K mg base N x (defScope st) fa cdv A outer s H E).nox (defBody st) t ∧
        ∀ (z : Pen) (a : α), pre a → ∀ (B S0 : Hp) (Q : VK), (∀ (G' : List Sl) (y : β) (z' : Pen), G'[0]? = some (.ow z') → Anch.fp z' = Anch.fp z → R a y → RT K B S0 Q y G') → At K B S0 (t { nx := fun _ H' => Q .non H', rt := Q }) (.ow z :: Sls.sls a ++ List.replicate (N.length - (PyA.n α + 1)) .no)) :
    Cal P w K mg base (k + 1) x ps (spRP K R pre) := by
  obtain ⟨fa, fd, m, Fu, b⟩ := D.ex
  refine ⟨fa, fd, m, Fu.ok S (fun vs H Q E ⟨S, v0, ws, qs, z, a, e, _, _, _, r, _⟩ => by rw [e, List.length_cons, PyA.len r]; exact hn) fun cdv A outer s H vs Q E hr ⟨S', v0, ws, qs, z, a, e, es, ho, hqs, r, hp, q⟩ => ?_, Fu.kp, b⟩
  subst e
  obtain ⟨t, h1, h2⟩ := h fa cdv A outer s H E hr
  refine ⟨t, h1, ?_⟩
  have kn := start_knM (N := N) es ho hqs r
  refine h2 z a hp _ S' Q (fun G' y z' hz hfp hR S1 σ1 H1 F1 v k1 r1 => ?_) S' _ H _ kn
  obtain ⟨v1, _, o1⟩ := k1.ow hz
  have ef : (v1, F1 0) = (v0, qs) := (Anch.at_ o1).trans (by rw [hfp]; exact (Anch.at_ ho).symm)
  have ev : v1 = v0 := congrArg Prod.fst ef
  have eF : F1 0 = qs := congrArg Prod.snd ef
  rw [ev, eF] at o1
  refine q v S1 H1 y z' hR hfp k1.s0 k1.sub (fun p o m e => k1.keep p o (by rw [if_neg m]; exact e)) (fun p o e => ?_) (fun p m => ?_) o1 r1
  · by_cases m : p ∈ qs
    · rw [(k1.off 0 p (by rw [eF]; exact m)).1, (hqs p m).1]
    · exact k1.clean p o (by rw [if_neg m]; exact e)
  · exact (k1.off 0 p (by rw [eF]; exact m)).2.2
end
end GL
namespace GL
theorem pen_cut {xs : List Int} {n : Nat} (h : xs.length ≤ n) (lo hi : Option Int) : (cutL xs lo hi).length ≤ n := by
  unfold cutL
  rw [List.length_take, List.length_drop]
  omega
theorem emod_bd (x : Int) {m : Int} (h : 0 < m) : 0 ≤ x % m ∧ x % m < m := ⟨Int.emod_nonneg _ (by omega), Int.emod_lt_of_pos _ h⟩
end GL
namespace GL
open PySem PySem.Spec PyProof.Rows L2
def excW (cls : Value) (d : Option Addr) (a : Addr) (h : Heap) : Prop := ∃ ob fs, h.get? a = some ob ∧ Zc cls d ob ∧ ob.data = .fields fs
abbrev excH (cls : Value) (d : Option Addr) (a : Addr) : HO := .ext (excW cls d a)
section
variable {X : Cx} {pins : List (Addr × Obj)} {σ : L2.St} {H : Hp}
theorem exc_ok {P : Program} {w : World} {H : Hp} {cls : Value} {d : Option Addr} {a : Addr} {h : Heap} (x : excW cls d a h) : ObjOk P w H h a (excH cls d a) := by
  refine ⟨x, ?_, fun h1 h2 ⟨ob, fs, e1, e2, e3⟩ k => ⟨ob, fs, k _ e1, e2, e3⟩⟩
  obtain ⟨ob, _, e, _⟩ := x
  exact ⟨ob, e⟩
theorem inv_exc {B : Heap} {sI s' : Shared} {cls : Value} {d : Option Addr} {a : Addr} (I : Inv X pins σ H sI) (ground : ∀ b o, sI.heap.get? b = some o → b ∉ frs X.stack → B.get? b = some o) (stays : B.StaysIn s'.heap) (slots : sI.heap.UpToSlots s'.heap)
    (eo : s'.os = sI.os) (eg : AllBare s'.gens) (nB : B.get? a = none) (nS : a ∉ frs X.stack) (x : excW cls d a s'.heap) (na : H a = none) : Inv X pins σ (upd H a (excH cls d a)) s' := by
  have noI : sI.heap.get? a = none := by
    cases e : sI.heap.get? a with
    | none => rfl
    | some o => rw [ground a o e nS] at nB; cases nB
  obtain ⟨G, g1, g2⟩ := restrict s'.heap fun b => !decide (b = a)
  have gIn : ∀ b, b ≠ a → G.get? b = s'.heap.get? b := fun b ne => g1 b (by rw [decide_eq_false ne]; rfl)
  have gNo : G.get? a = none := g2 a (by rw [decide_eq_true rfl]; rfl)
  have J : Inv X pins σ H { s' with heap := G } := by
    refine Inv.landed I ground (fun b o e => ?_) (fun b o e nf => ?_) eo eg
    · have ne : b ≠ a := fun z => by rw [z, nB] at e; cases e
      exact (gIn b ne).trans (stays b o e)
    · have ne : b ≠ a := fun z => by rw [z, noI] at e; cases e
      obtain ⟨sl, q⟩ := slots b o e nf
      exact ⟨sl, (gIn b ne).trans q⟩
  have sub : ∀ b u, G.get? b = some u → s'.heap.get? b = some u := fun b u e => by
    have ne : b ≠ a := fun z => by rw [z, gNo] at e; cases e
    rw [gIn b ne] at e
    exact e
  exact J.laidN (t' := s'.toks) sub gNo na (exc_ok x)
theorem inv_suite {s : Shared} {a : Addr} (I : Inv X pins σ H s) : Inv (X.suite a (X.pn ++ pins)) [] σ H s :=
  ⟨I.ok.suite a _, I.os, I.bare, I.base, I.loc, I.cell, I.free, I.freeC, fun p hp => I.pin p (by simpa using hp), I.hok, I.len⟩
theorem inv_unsuite {s : Shared} {a : Addr} {more : List (Addr × Obj)} (I : Inv (X.suite a (X.pn ++ pins)) more σ H s) (ok : X.Ok) : Inv X pins σ H s :=
  ⟨ok, I.os, I.bare, I.base, I.loc, I.cell, I.free, I.freeC, fun p hp => I.pin p (List.mem_append_left more hp), I.hok, I.len⟩
end
def noSlot (i : Nat) (D : Ends) : Ends := { nx := fun σ H => D.nx (σ.set i none) H, rt := D.rt, bk := fun σ H => D.bk (σ.set i none) H, ct := fun σ H => D.ct (σ.set i none) H }
def wKeep (K : Fg) (c : Value) (i : Nat) (ts : TS) (D : Ends) : WX := fun cls d σ H =>
  PySem.W.exmOne K cls c = some true ∧ ∀ a, H a = none → ts (noSlot i D) (σ.set i (some (.ref a))) (upd H a (excH cls d a))
def wKeep0 (K : Fg) (c : Value) (ts : TS) (D : Ends) : WX := fun cls d σ H => PySem.W.exmOne K cls c = some true ∧ ∀ a, H a = none → ts D σ (upd H a (excH cls d a))
theorem frame_off {B h : Heap} {l : List Env} {a : Addr} {ob : Obj} {fs : Array Value} (ff : h.FunFrames B l) (e : h.get? a = some ob) (ed : ob.data = .fields fs) : a ∉ frs l := fun hm => by
  obtain ⟨_, ob2, e2, nf⟩ := ff.mem hm
  rw [e, Option.some.injEq] at e2
  exact nf fs (e2 ▸ ed)
section
variable {X : Cx} {x n : Str} {c : Value} {i : Nat} {body suite : List Stmt} {st0 : Stmt} {p1 p2 p3 : Pos} {tb : WX → TS} {ts : TS} {pins : List (Addr × Obj)} {D : Ends} {s' : Shared}
structure Landed (X : Cx) (pins : List (Addr × Obj)) (B : Heap) (σ : L2.St) (H : Hp) (cls : Value) (d : Option Addr) (a : Addr) (s : Shared) : Prop where
  fly : HandSPX.FlyingZ B (X.env :: X.outer) a (Zc cls d) s.heap
  inv : Inv X pins σ (upd H a (excH cls d a)) s
theorem landed_at {B : Heap} {sI s : Shared} {σ : L2.St} {H : Hp} {cls : Value} {d : Option Addr} {a : Addr} (es : X.stack = X.env :: X.outer) (J : Inv X pins σ H sI) (nb : ∀ b o, sI.heap.get? b = some o → b ∉ frs X.stack → B.get? b = some o)
    (up : sI.heap.UpToSlots s.heap) (eo : s.os = sI.os) (eg : AllBare s.gens) (na : H a = none) (fly : HandSPX.FlyingZ B (X.env :: X.outer) a (Zc cls d) s.heap) : Landed X pins B σ H cls d a s := by
  obtain ⟨ob, fs, e, ez, ed⟩ := fly.there
  refine ⟨fly, inv_exc J nb fly.1 up eo eg fly.2.1 ?_ ⟨ob, fs, e, ez, ed⟩ na⟩
  rw [es]
  exact frame_off fly.2.2.1 e ed
theorem Landed.test {B : Heap} {s : Shared} {σ : L2.St} {H : Hp} {cls : Value} {d : Option Addr} {a : Addr} {Q : Bool → Shared → Prop} {E : Value → Shared → Prop} (l : Landed X pins B σ H cls d a s) (hc : Names X x c) (hm : PySem.W.exmOne X.K cls c = some true) (q : Q true s) :
    wpAny (model X.prog X.w) (X.A.mark (some (.ref a))) (eval (.Name x p1) X.env) (fun v s1 => wpAny (model X.prog X.w) (X.A.mark (some (.ref a))) (excMatches (.ref a) v) Q E s1) E s := by
  obtain ⟨ob, fs, e, ez, ed⟩ := l.fly.there
  have lt : PySem.W.Looks (model X.prog X.w) s.heap (typeOf (.ref a)) cls := fun A Q E s2 k q2 => wpAny_typeOf_ref (k _ _ e) (ez.1 ▸ q2)
  have lm := PySem.W.exm_one (M := model X.prog X.w) l.inv.kIn lt hm
  have in_ := inv_suite (a := a) l.inv
  obtain ⟨gl, db, kn | ⟨kn, kb, knm⟩⟩ := hc
  · exact ld_glob in_ gl kn (lm.here q) db
  · exact ld_blt in_ gl kn kb (lm.here q) knm db
theorem ps_try_keep0 (es : X.stack = X.env :: X.outer) (ef : X.env.frame = some X.env.locals) (hc : Names X x c)
    (hb : ∀ (W : WX) (pn : List (Addr × Obj)) (xe : Value → Shared → Prop), Takes (X.tr pn xe) W → PassesOwn (model X.prog X.w) X.A X.env xe → PSs (X.tr pn xe) body (tb W))
    (hs : ∀ (a : Addr) (pn : List (Addr × Obj)), PSs (X.suite a pn) (st0 :: suite) ts) :
    PS X (.Try body [.ExceptHandler (some (.Name x p1)) none (st0 :: suite) p2] [] [] p3) (fun D σ H => tb (wKeep0 X.K c ts D) D σ H) := ⟨fun pins s σ H D I h => by
  have ok := I.ok
  have fr : X.A.frames = some (X.env :: X.outer) := ok.frames.trans (congrArg some es)
  have bodyRun := fun xe tk po => (hb (wKeep0 X.K c ts D) (X.pn ++ pins) xe tk po).run [] s σ H D (I.toTry xe) h
  refine wpAny_Try_except (wpAny_mono (bodyRun _ (fun u s' xx => ?_) PassesOwn.looking) (fun f s1 hf => ?_) fun _ _ z => z)
  · obtain ⟨a, B, sI, pins', σ', H', cls, d, eu, J', nb, up, sky, na, eo, eg, hm, hyes⟩ := xx
    subst eu
    have J := J'.ofTry ok
    rw [show (X.tr (X.pn ++ pins) _).stack = X.env :: X.outer from es] at sky
    refine Sky.land Zc.steady fr ef sky fun h3 fl3 up3 => ?_
    have l3 := landed_at (s := { s' with heap := h3 }) es J nb (up.trans up3) eo eg na fl3
    refine wpAny_handleBy_cons (codeAny_handlers_test (l3.test hc hm ?_)) fun z => nomatch z
    refine codeAny_handlers_suite (HandSPX.lands_againZ fl3 fun h4 fl4 up4 => ?_)
    have l4 := landed_at (s := { s' with heap := h4 }) es J nb ((up.trans up3).trans up4) eo eg na fl4
    refine wpAny_mono ((hs a (X.pn ++ pins)).run [] _ _ _ _ (inv_suite (a := a) l4.inv) (hyes a na)) (fun f s6 hsp => ?_) fun _ _ z => z.elim
    cases f with
    | ret u => obtain ⟨v6, σ6, H6, I6, r6, q6⟩ := hsp; exact ⟨v6, σ6, H6, inv_unsuite I6 ok, r6, q6⟩
    | next => obtain ⟨σ6, H6, I6, q6⟩ := hsp; exact ⟨_, H6, inv_unsuite I6 ok, q6⟩
    | brk => obtain ⟨σ6, H6, I6, q6⟩ := hsp; exact ⟨_, H6, inv_unsuite I6 ok, q6⟩
    | cont => obtain ⟨σ6, H6, I6, q6⟩ := hsp; exact ⟨_, H6, inv_unsuite I6 ok, q6⟩
  · cases f with
    | ret u => obtain ⟨v1, σ1, H1, I1, r1, q1⟩ := hf; exact ⟨v1, σ1, H1, I1.ofTry ok, r1, q1⟩
    | next => obtain ⟨σ1, H1, I1, q1⟩ := hf; exact wpAny_execs_nil ⟨σ1, H1, I1.ofTry ok, q1⟩
    | brk => obtain ⟨σ1, H1, I1, q1⟩ := hf; exact ⟨σ1, H1, I1.ofTry ok, q1⟩
    | cont => obtain ⟨σ1, H1, I1, q1⟩ := hf; exact ⟨σ1, H1, I1.ofTry ok, q1⟩⟩
end
end GL
set_option maxHeartbeats 4000000
namespace L2
open PySem PySem.Spec PyProof.Rows GL
def rGe2 (K : PySem.W.Frag) : R2 := fun x y H Q => ∃ m n m' n' : Int, TupI K H x [m, n] ∧ TupI K H y [m', n'] ∧ Q (.bl (le2b (m', n') (m, n))) H
end L2
namespace GL
open PySem PySem.Spec PyProof.Rows L2
section
variable {K : Fg} {G G1 G2 : List Sl} {ta tb : TE}
def lastI {α : Type} [Inhabited α] (xs : List α) : α := ix xs ((xs.length : Int) - 1)
theorem ev_last {α : Type} [Py α] [Inhabited α] {xs : List α} (ha : EvX K ta G xs G1) (hb : EvX K tb G1 (-1) G2) (h : 0 < xs.length) : EvX K (tOp (rIxL K) ta tb) G (lastI xs) G2 := fun B S0 S σ H F k Q q =>
  ha B S0 S σ H F k _ fun v S1 H1 e1 k1 r1 => hb B S0 S1 σ H1 F k1 _ fun u S2 H2 e2 k2 r2 => by
    obtain ⟨p, vs, rfl, hp, hr⟩ := Py.mono e2 r1
    obtain ⟨w, h1, h2⟩ := hr.get (ix_at (xs := xs) (i := (xs.length : Int) - 1) (by omega) (by omega))
    have hl := hr.len
    have e : atI vs (-1) = some w := by
      obtain ⟨init, last, rfl⟩ : ∃ init last, vs = init ++ [last] := by
        rcases List.eq_nil_or_concat vs with q | ⟨i, l, q⟩
        · rw [q] at hl; simp at hl; omega
        · exact ⟨i, l, by rw [q]; simp⟩
      rw [List.length_append, List.length_singleton] at hl
      rw [show ((xs.length : Int) - 1).toNat = init.length by omega, List.getElem?_append_right (Nat.le_refl _), Nat.sub_self] at h1
      have e1 : last = w := Option.some.inj h1
      rw [← e1]
      exact atI_last init last
    exact ⟨p, vs, -1, w, rfl, r2, SqL.of (k2.sub _ _ hp), e, q w S2 H2 (e1.trans e2) k2 h2⟩
end
end GL
set_option maxHeartbeats 4000000
namespace GL
open PySem PySem.Spec PyProof.Rows L2
section
variable {K : Fg} {B S0 : Hp} {G G1 G2 : List Sl} {ta tb tc te : TE} {i j : Nat} {u : TS} {E : Ends}
theorem qg_whI {τ : Type} {tt : TT} {tb : TS} (γ : τ → List Sl) (c : τ → Bool) (s0 : τ) (I : τ → Prop) (μ : τ → Nat) (h0 : Le (γ s0) G) (hI : I s0) (hc : ∀ s, I s → EvT K tt (γ s) (c s) (γ s))
    (hs : ∀ s, I s → c s = true → ∀ S1, Reb B S0 S1 → At K B S1 (tb { E with nx := Mid K B S1 (fun G' => ∃ s', G' = γ s' ∧ I s' ∧ μ s' < μ s), ct := Mid K B S1 (fun G' => ∃ s', G' = γ s' ∧ I s' ∧ μ s' < μ s), bk := u E }) (γ s))
    (hd : ∀ s, I s → c s = false → ∀ S1, Reb B S0 S1 → At K B S1 (u E) (γ s)) : At K B S0 (tSeq (tWhile tt tb) u E) G := by
  refine at_le h0 (q_while (fun m Gi => ∃ s, Gi = γ s ∧ I s ∧ μ s = m) (μ s0) ⟨s0, rfl, hI, rfl⟩ fun m Gi ⟨s, e, p, q⟩ S1 rb => ?_)
  subst e
  refine ⟨c s, hc s p, fun hb => ?_, fun hb => hd s p hb S1 rb⟩
  have h := hs s p hb S1 rb
  have e : (fun G' => ∃ m', m' < m ∧ ∃ s', G' = γ s' ∧ I s' ∧ μ s' = m') = (fun G' => ∃ s', G' = γ s' ∧ I s' ∧ μ s' < μ s) := by
    funext G'
    apply propext
    constructor
    · rintro ⟨m', h1, s', h2, h3, h4⟩
      exact ⟨s', h2, h3, by omega⟩
    · rintro ⟨s', h2, h3, h4⟩
      exact ⟨μ s', by omega, s', h2, h3, rfl⟩
  rw [e]
  exact h
end
end GL
set_option maxHeartbeats 4000000
namespace GL
open PySem PySem.Spec PyProof.Rows L2
section
variable {K : Fg} {G : List Sl} {i j : Nat}
def pickX {τ α β : Type} (f : τ → α → Bool) (e : α → β) (step : τ → α → τ) (xs : List α) (s0 : τ) : List β × τ := xs.foldl (fun (a : List β × τ) x => (if f a.2 x = true then a.1 ++ [e x] else a.1, step a.2 x)) ([], s0)
end
section
variable {K : Fg} {B S0 : Hp} {G G1 G2 G3 : List Sl} {ta tb tc : TE} {u : TS} {E : Ends}
theorem q_ret3L {δ β γ : Type} [Py δ] [Py β] [PyF β] [PyT β] [Py γ] [PyF γ] [PyT γ] {xs : List δ} {y : β} {z : γ} (h : EvL K ta G xs G1) (hb : EvX K tb G1 y G2) (hc : EvX K tc G2 z G3) (k : RT K B S0 E.rt (Fx.mk B (T3.mk xs y z)) G3) : At K B S0 (tSeq (tRet (tTup (tCons ta (tCons tb (tCons tc tNil))))) u E) G := fun S σ H F kn =>
  h B S0 S σ H F kn _ fun p vs S' H' e kn' hs hb' hf hp r => by
    have k2 := kn'.settle hp hs hb' hf
    refine hb B S0 _ σ H' F k2 _ fun v S2 H2 e2 k3 r2 => hc B S0 S2 σ H2 F k3 _ fun w S3 H3 e3 k4 r3 => ⟨by show 3 ≤ sizeLine; decide, fun l hl => ?_⟩
    have e4 := same_new (o := .tup [.ref p, v, w]) (k4.free hl).1
    have r1 : PyF.repF K B (upd S' p (.lst vs)) (.ref p) xs := ⟨⟨p, vs, rfl, upd_same, r.mono (same_new hs)⟩, p, rfl, hb'⟩
    exact k _ σ _ F (.ref l) (k4.new hl) ⟨l, .ref p, v, w, rfl, SqT.of upd_same, PyF.mono ((e2.trans e3).trans e4) r1, PyF.mono (e3.trans e4) (PyT.of r2), PyF.mono e4 (PyT.of r3)⟩
end
end GL
namespace GL
open PySem PySem.Spec PyProof.Rows L2
inductive Dat
  | non
  | int (i : Int)
  | bl (b : Bool)
  | str (s : Str)
  | tup (l : List Dat)
  | lst (l : List Dat)
mutual
inductive DRep (K : Fg) (S : Hp) : V → Dat → Prop
  | non : DRep K S .non .non
  | int (i : Int) : DRep K S (.int i) (.int i)
  | bl (b : Bool) : DRep K S (.bl b) (.bl b)
  | str (s : Str) : DRep K S (.str s) (.str s)
  | tup {p : Addr} {vs : List V} {l : List Dat} : SqT K S p vs → DRepL K S vs l → DRep K S (.ref p) (.tup l)
  | lst {p : Addr} {vs : List V} {l : List Dat} : S p = some (.lst vs) → DRepL K S vs l → DRep K S (.ref p) (.lst l)
inductive DRepL (K : Fg) (S : Hp) : List V → List Dat → Prop
  | nil : DRepL K S [] []
  | cons {v : V} {d : Dat} {vs : List V} {l : List Dat} : DRep K S v d → DRepL K S vs l → DRepL K S (v :: vs) (d :: l)
end
mutual
theorem DRep.mono {K : Fg} {S S' : Hp} (e : Same S S') : ∀ {v : V} {d : Dat}, DRep K S v d → DRep K S' v d
  | _, _, .non => .non
  | _, _, .int i => .int i
  | _, _, .bl i => .bl i
  | _, _, .str i => .str i
  | _, _, .tup h r => .tup (seqT e h) (DRepL.mono e r)
  | _, _, .lst h r => .lst (e _ _ h) (DRepL.mono e r)
theorem DRepL.mono {K : Fg} {S S' : Hp} (e : Same S S') : ∀ {vs : List V} {l : List Dat}, DRepL K S vs l → DRepL K S' vs l
  | _, _, .nil => .nil
  | _, _, .cons h r => .cons (DRep.mono e h) (DRepL.mono e r)
end
instance : Py Dat := ⟨fun K S v d => DRep K S v d, fun e h => h.mono e⟩
theorem DRepL.rep {K : Fg} {S : Hp} : ∀ {vs : List V} {l : List Dat}, DRepL K S vs l → RepL K S vs l
  | _, _, .nil => True.intro
  | _, _, .cons h r => ⟨h, DRepL.rep r⟩
inductive DLe : Nat → Dat → Prop
  | non {k : Nat} : DLe k .non
  | int {k : Nat} {i : Int} : DLe k (.int i)
  | bl {k : Nat} {i : Bool} : DLe k (.bl i)
  | str {k : Nat} {i : Str} : DLe k (.str i)
  | tup {k : Nat} {l : List Dat} : l.length ≤ 1000000 → (∀ x ∈ l, DLe k x) → DLe (k + 1) (.tup l)
  | lst {k : Nat} {l : List Dat} : l.length ≤ 1000000 → (∀ x ∈ l, DLe k x) → DLe (k + 1) (.lst l)
class ToD (α : Type) [Py α] where
  dat : α → Dat
  of : ∀ {K : Fg} {S : Hp} {v : V} {x : α}, Py.rep K S v x → DRep K S v (dat x)
instance : ToD Int := ⟨.int, fun h => by rw [show _ = V.int _ from h]; exact .int _⟩
instance : ToD Bool := ⟨.bl, fun h => by rw [show _ = V.bl _ from h]; exact .bl _⟩
instance : ToD Str := ⟨.str, fun h => by rw [show _ = V.str _ from h]; exact .str _⟩
instance : ToD Unit := ⟨fun _ => .non, fun h => by rw [show _ = V.non from h]; exact .non⟩
instance : ToD Dat := ⟨fun d => d, fun h => h⟩
section
variable {α β γ : Type} [Py α] [Py β] [Py γ] [ToD α] [ToD β] [ToD γ]
theorem RepL.toD {K : Fg} {S : Hp} : ∀ {vs : List V} {l : List α}, RepL K S vs l → DRepL K S vs (l.map ToD.dat)
  | [], [], _ => .nil
  | _ :: _, _ :: _, h => .cons (ToD.of h.1) (RepL.toD h.2)
  | [], _ :: _, h => h.elim
  | _ :: _, [], h => h.elim
instance : ToD (List α) := ⟨fun l => .lst (l.map ToD.dat), fun ⟨p, vs, h1, h2, h3⟩ => by rw [h1]; exact .lst h2 h3.toD⟩
instance : ToD (Tp α) := ⟨fun l => .tup (l.l.map ToD.dat), fun ⟨p, vs, h1, h2, h3⟩ => by rw [h1]; exact .tup h2 h3.toD⟩
instance : ToD (α × β) := ⟨fun x => .tup [ToD.dat x.1, ToD.dat x.2], fun ⟨p, a, b, h1, h2, h3, h4⟩ => by rw [h1]; exact .tup h2 (.cons (ToD.of h3) (.cons (ToD.of h4) .nil))⟩
instance : ToD (T3 α β γ) := ⟨fun x => .tup [ToD.dat x.a, ToD.dat x.b, ToD.dat x.c], fun ⟨p, a, b, c, h1, h2, h3, h4, h5⟩ => by rw [h1]; exact .tup h2 (.cons (ToD.of h3) (.cons (ToD.of h4) (.cons (ToD.of h5) .nil)))⟩
instance : ToD (Option α) := ⟨fun x => match x with | none => .non | some y => ToD.dat y, fun {K S v x} h => by
  cases x with
  | none => rw [show _ = V.non from h]; exact .non
  | some y => exact ToD.of (x := y) h⟩
end
structure H2 (α β : Type) where
  a : α
  b : β
  deriving DecidableEq
section
variable {α β γ : Type} [Py α] [Py β] [Py γ]
instance : Py (H2 α β) := ⟨fun K S v x => ∃ p a b, v = .ref p ∧ S p = some (.lst [a, b]) ∧ Py.rep K S a x.a ∧ Py.rep K S b x.b, fun e ⟨p, a, b, h1, h2, h3, h4⟩ => ⟨p, a, b, h1, e _ _ h2, Py.mono e h3, Py.mono e h4⟩⟩
instance [Dt α] [Dt β] : Dt (H2 α β) := ⟨fun x => .list [Dt.dat x.a, Dt.dat x.b], fun e ⟨p, a, b, h1, h2, h3, h4⟩ => by rw [h1]; exact .lst (SqL.of (e _ _ h2)) (.cons (Dt.dp e h3) (.cons (Dt.dp e h4) .nil)),
  fun x => by simp [PyData.canLay0, PyData.canLayAll0, Dt.lay], max (Dt.dep α) (Dt.dep β) + 1, fun x => by
    have h1 := Dt.dle x.a
    have h2 := Dt.dle x.b
    simp only [PyData.depth, PyData.depthAll]
    omega, fun x y => by
    simp only [PyData.eqv, PyData.eqvAll, Bool.and_eq_true, Dt.eq, and_true]
    cases x; cases y
    simp⟩
end
section
variable {K : Fg} {B S0 S1 S S' D : Hp} {σ : L2.St} {H H' : Hp} {F : Nat → List Addr} {G G' G1 G2 G3 : List Sl} {ta tb tc te : TE} {i j : Nat} {t u : TS} {E : Ends}
theorem ev_popAt {α : Type} [Py α] [Inhabited α] {xs : List α} {n : Int} (hl0 : G[i]? = some (.ow xs)) (hn : EvX K te G n G1) (hl : G1[i]? = some (.ow xs)) (h : 0 ≤ n ∧ n < xs.length) (hx : xs.length ≤ 1000000) :
    EvX K (tBM K "list" rPopAt (tVar i) (tCons te tNil)) G (ix xs n) (G1.set i (.ow (xs.eraseIdx n.toNat))) := fun B S0 S σ H F k Q q => by
  obtain ⟨p, vs, h1, h2, h3, h4⟩ := own_list k hl0
  refine ⟨.ref p, h1, .inl ⟨rfl, _, SqL.of h3⟩, hn B S0 S σ H F k _ fun w S1 H1 e1 k1 r1 => ?_⟩
  obtain ⟨p', vs', h1', h2', h3', h4'⟩ := own_list k1 hl
  rw [h1] at h1'
  cases h1'
  obtain ⟨y, g1, g2⟩ := h4'.get (ix_at h.1 h.2)
  refine ⟨p, vs', n, n.toNat, y, rfl, by rw [show w = .int n from r1], h3', by omega, by omega, ?_, g1, q y S1 _ e1 (own_listUpd k1 h1 h2' (h4'.erase n.toNat)) g2⟩
  unfold seqIndex?
  rw [h4'.len]
  have a1 : ¬ n < 0 := by omega
  simp only [a1, if_false]
  rw [if_pos (by simp; omega)]
def Dat.tyn : Dat → String
  | .non => "NoneType"
  | .int _ => "int"
  | .bl _ => "bool"
  | .str _ => "str"
  | .tup _ => "tuple"
  | .lst _ => "list"
theorem DRep.ty {v : V} {d : Dat} (e : Same S H) (h : DRep K S v d) : TyX K H v (.type d.tyn) := by
  cases h with
  | non => exact .base .non
  | int i => exact .base (.int i)
  | bl i => exact .base (.bl i)
  | str i => exact .base (.str i)
  | tup a _ => exact tyT e a
  | lst a _ => exact .base (.lst (e _ _ a))
theorem EvX.dat {α : Type} [Py α] [ToD α] {x : α} (h : EvX K te G x G1) : EvX K te G (ToD.dat x) G1 := fun B S0 S σ H F k Q q => h B S0 S σ H F k Q fun v S' H' e k' r => q v S' H' e k' (ToD.of r)
def Dat.isN : Dat → Bool
  | .non => true
  | _ => false
end
abbrev spSame (K : Fg) (k : Nat) : Sp := spF K (fun (_ : Dat × Dat × Unit) => true) (fun a => a.1 = a.2.1 ∧ DLe k a.1)
end GL
namespace GL
open PySem PySem.Spec PyProof.Rows L2
def del (S : Hp) (p : Addr) : Hp := fun q => if q = p then none else S q
theorem del_self {S : Hp} {p : Addr} : del S p p = none := if_pos rfl
theorem del_ne {S : Hp} {p q : Addr} (h : q ≠ p) : del S p q = S q := if_neg h
class NoD (α : Type) [Py α] : Prop where
  go : ∀ {K : Fg} {S : Hp} {p : Addr} {kvs : List (Key × V)} {v : V} {x : α}, S p = some (.dK kvs) → Py.rep K S v x → Py.rep K (del S p) v x
theorem noT {K : Fg} {S : Hp} {p a : Addr} {kvs : List (Key × V)} {vs : List V} (h : S p = some (.dK kvs)) (r : SqT K S a vs) : SqT K (del S p) a vs := by
  rcases r with (r | ⟨o, r⟩) | r
  · exact .inl (.inl (by rw [del_ne (fun e => by rw [e, h] at r; cases r)]; exact r))
  · exact .inl (.inr ⟨o, by rw [del_ne (fun e => by rw [e, h] at r; cases r)]; exact r⟩)
  · exact .inr r
section
variable {α β γ : Type} [Py α] [Py β] [Py γ]
theorem noL [NoD α] {K : Fg} {S : Hp} {p : Addr} {kvs : List (Key × V)} (h : S p = some (.dK kvs)) : ∀ {vs : List V} {xs : List α}, RepL K S vs xs → RepL K (del S p) vs xs
  | [], [], _ => True.intro
  | _ :: _, _ :: _, r => ⟨NoD.go h r.1, noL h r.2⟩
  | [], _ :: _, r => r.elim
  | _ :: _, [], r => r.elim
instance : NoD Int := ⟨fun _ h => h⟩
instance : NoD Bool := ⟨fun _ h => h⟩
instance : NoD Str := ⟨fun _ h => h⟩
instance : NoD Unit := ⟨fun _ h => h⟩
instance [NoD α] : NoD (List α) := ⟨fun h ⟨a, vs, h1, h2, h3⟩ => ⟨a, vs, h1, by rw [del_ne (fun e => by rw [e, h] at h2; cases h2)]; exact h2, noL h h3⟩⟩
instance [NoD α] : NoD (Tp α) := ⟨fun h ⟨a, vs, h1, h2, h3⟩ => ⟨a, vs, h1, noT h h2, noL h h3⟩⟩
instance [NoD α] [NoD β] : NoD (α × β) := ⟨fun h ⟨a, x, y, h1, h2, h3, h4⟩ => ⟨a, x, y, h1, noT h h2, NoD.go h h3, NoD.go h h4⟩⟩
instance [NoD α] [NoD β] [NoD γ] : NoD (T3 α β γ) := ⟨fun h ⟨a, x, y, z, h1, h2, h3, h4, h5⟩ => ⟨a, x, y, z, h1, noT h h2, NoD.go h h3, NoD.go h h4, NoD.go h h5⟩⟩
instance [NoD α] : NoD (Option α) := ⟨fun {K S p kvs v x} h r => by
  cases x with
  | none => exact r
  | some y => exact NoD.go (x := y) h r⟩
end
section
variable {K : Fg} {B S0 S1 S S' D : Hp} {σ : L2.St} {H H' : Hp} {F : Nat → List Addr} {G G' G1 G2 G3 : List Sl} {ta tb tc te : TE} {i j : Nat} {t u : TS} {E : Ends}
def EvV {α : Type} [PyA α] (K : Fg) (ta : TA) (G : List Sl) (x : α) : Prop :=
  ∀ B S0 S σ H F, Kn K B S0 S σ H F G → ∀ Q : List V → Hp → Prop, (∀ vs, PyA.rep K S vs x → Q vs H) → ta σ H Q
theorem vv_nil : EvV K tNil G () := fun B S0 S σ H F k Q q => q [] rfl
theorem vv_cons {α δ : Type} [Py α] [PyA δ] {x : α} {tr : TA} {xs : δ} (h : G[i]? = some (.im x)) (hr : EvV K tr G xs) : EvV K (tCons (tVar i) tr) G (x, xs) := fun B S0 S σ H F k Q q => by
  obtain ⟨v, h1, h2⟩ := k.im h
  exact ⟨v, h1, hr B S0 S σ H F k _ fun vs r => q (v :: vs) ⟨v, vs, rfl, h2, r⟩⟩
theorem Kn.relDat {δ : Type} [Py δ] {d : Dct δ} {p : Addr} {kvs : List (Key × V)} (k : Kn K B S0 S σ H F G) (h : G[i]? = some (.ow d)) (hv : σ[i]? = some (some (.ref p))) (hp : F i = [p]) (h1 : H p = some (.dK kvs)) (h2 : RepD K S kvs d.l) : Kn K B S0 (upd S p (.dK kvs)) σ H (upF F i []) (G.set i (.im d)) := by
  obtain ⟨hs, hb, _⟩ := k.off i p (by rw [hp]; exact List.mem_singleton.mpr rfl)
  have k1 : Kn K B S0 S σ H (upF F i []) (G.set i .no) := by
    refine ⟨k.s0, k.sub, k.keep, k.clean, fun j q hq => ?_, fun a b q ha hb' => ?_, by rw [List.length_set]; exact k.len, fun j s e => ?_⟩
    · by_cases e : j = i
      · rw [e, upF_self] at hq
        cases hq
      · rw [upF_ne e] at hq
        exact k.off j q hq
    · by_cases ea : a = i
      · rw [ea, upF_self] at ha
        cases ha
      · by_cases eb : b = i
        · rw [eb, upF_self] at hb'
          cases hb'
        · rw [upF_ne ea] at ha
          rw [upF_ne eb] at hb'
          exact k.dj a b q ha hb'
    · rcases set_get e with ⟨rfl, rfl⟩ | ⟨ne, e⟩
      · exact True.intro
      · rw [upF_ne ne]
        exact k.sl j s e
  have hf : ∀ j, p ∉ upF F i [] j := fun j hj => by
    by_cases e : j = i
    · rw [e, upF_self] at hj
      cases hj
    · rw [upF_ne e] at hj
      exact e (k.dj j i p hj (by rw [hp]; exact List.mem_singleton.mpr rfl))
  have k2 := k1.settle h1 hs hb hf
  have hl : i < G.length := (List.getElem?_eq_some_iff.mp h).1
  have k3 := k2.set (i := i) (v := .ref p) (x := d) ⟨p, kvs, rfl, upd_same, h2.mono (same_new hs)⟩ (by rw [List.getElem?_set_self hl]; rfl)
  have e1 : σ.set i (some (.ref p)) = σ := by
    apply List.ext_getElem?
    intro j
    by_cases e : i = j
    · subst e
      rw [List.getElem?_set_self (by rw [← k.len]; exact hl)]
      exact hv.symm
    · rw [List.getElem?_set_ne e]
  rw [e1, List.set_set] at k3
  exact k3
theorem Grow.lent {p : Addr} {o : HO} {S2 H2 : Hp} (hs : S p = none) (g : Grow (upd S p o) H S2 H2) : Grow S H (del S2 p) H2 := by
  refine ⟨fun q x e => ?_, fun q x e => ?_, g.h, fun q x e => ?_⟩
  · have z : q ≠ p := fun z => by rw [z, hs] at e; cases e
    rw [del_ne z]
    exact g.s q x (by rw [upd_ne z]; exact e)
  · by_cases z : q = p
    · rw [z, del_self] at e
      cases e
    · rw [del_ne z] at e
      exact g.sub q x e
  · by_cases z : q = p
    · rw [z, del_self, hs]
    · rw [del_ne z, g.cl q x e, upd_ne z]
theorem ev_callB {δ α β : Type} [Py δ] [PyA α] [Py β] [NoD β] {f : α → β} {pre : α → Prop} {a : α} {t : TA} {E : XK} {d : Dct δ} (hi : G[i]? = some (.ow d)) (ha : EvV K t (G.set i (.im d)) a) (hp : pre a) : EvX K (tCall (spF K f pre) [] E t) G (f a) G := fun B S0 S σ H F k Q q => by
  obtain ⟨v, hv, p, kvs, rfl, hF, h1, h2⟩ := k.ow hi
  obtain ⟨hs, hb, _⟩ := k.off i p (by rw [hF]; exact List.mem_singleton.mpr rfl)
  have k' := k.relDat hi hv hF h1 h2
  refine ha B S0 _ σ H _ k' _ fun vs r => ?_
  show spF K f pre (vs ++ []) H _ E
  rw [List.append_nil]
  refine ⟨upd S p (.dK kvs), a, k'.sub, r, hp, fun w S2 H2 g r2 => ?_⟩
  have gl := g.lent hs
  exact q w (del S2 p) H2 gl.s (k.grow gl) (NoD.go (g.s _ _ upd_same) r2)
theorem el_lcP {α β τ : Type} [Py α] [Py β] {wi : TI} {g : TG} {te : TE} {vs : List Nat} {xs : List α} (γ : τ → List Sl) (s0 : τ) (step : τ → α → τ) (e : τ → α → β) (hi : ItG K wi G xs (γ s0)) (hl : xs.length ≤ 1000000)
    (hs : ∀ pre x post, pre ++ x :: post = xs → ∀ s, s = pre.foldl step s0 → ∃ G2 ts, TgG K g x (wipeG (γ s) vs) G2 ts ∧ (∀ t ∈ ts, t ∈ vs) ∧ ∃ G4, EvX K te G2 (e s x) G4 ∧ Bk vs 0 (γ (step s x)) G4 (γ s)) :
    EvL K (tLc wi g tYes te vs) G (mapX e step xs s0).1 (γ (mapX e step xs s0).2) := by
  have h := el_lcX (K := K) (wi := wi) (g := g) (tt := tYes) (te := te) (vs := vs) (G := G) γ s0 step (fun _ _ => true) e hi hl fun pre x post ex s hs' => by
    obtain ⟨G2, ts, tg, hts, G4, he, bk⟩ := hs pre x post ex s hs'
    refine ⟨G2, ts, tg, hts, G2, G4, et_yes, fun _ => he, (fun h => nomatch h), fun j sl hj => ?_, bk.len⟩
    have := bk.get j sl hj
    rw [Nat.zero_add] at this
    exact this
  simp only [if_true] at h
  rw [mapX_snd]
  exact h
end
theorem pe_bmK {X : Cx} {K : Fg} {o e : Expr} {es : List Expr} {to : TE} {t : TA} {name : Str} {apos cpos : Pos} {T id : String} {r : V → List V → Hp → VK → Prop} (hK : X.K = K) (pa : PlainAttrs T) (slot : Slot T name id) (hty : typeOf (.builtin id) = pure (.type "method_descriptor")) (hm : MtR X id r) (ho : PE X o to) (ha : PA X (e :: es) t)
    (hbase : attributeBase o name X.env (eval o X.env) = eval o X.env := by rfl)
    (hfew : ((backTo cpos (starEach (e :: es) X.env)).all (fun x => !x.1) && (backToKw cpos (keywordEach [] X.env)).all (fun x => x.1.isSome) && decide ((e :: es).length + ([] : List Keyword).length + (if ([] : List Keyword).isEmpty then 0 else 1) < 30)) = true := by rfl)
    (hline : (apos.endLine == cpos.line) = true := by rfl) (hs : starEach (e :: es) X.env = (false, eval e X.env) :: starEach es X.env := by rfl) (hplain : (backTo cpos (starEach es X.env)).any (·.1) = false := by rfl) :
    PE X (.Call (.Attribute o name apos) (e :: es) [] cpos) (tBM K T r to t) := by
  subst hK
  exact pe_bm pa slot hty hm ho ha hbase hfew hline hs hplain
end GL
namespace L2
open PySem PySem.Spec PyProof.Rows
section
variable {X : Cx}
def tSortSetT (K : PySem.W.Frag) (ta : TE) : TE := fun σ H Q => ta σ H fun x H1 => ∃ (l : Addr) (ns : List Int), x = V.ref l ∧ SqT K H1 l (ns.map V.int) ∧ ns.length < 64 ∧
  ∀ (ms : List Int) (p : Addr), ms.Pairwise (· < ·) → (∀ k : Int, k ∈ ms ↔ k ∈ ns) → H1 p = none → Q (.ref p) (upd H1 p (.lst (ms.map V.int)))
theorem pe_sortSetT {a : Expr} {ta : TE} {p p2 q pos : Pos} (hc : X.calm = true) (hg : Gl X "sorted") (hm : X.mg "sorted" = none) (hg2 : Gl X "set") (hm2 : X.mg "set" = none) (ha : PE X a ta)
    (na : starEach [a] X.env = (false, eval a X.env) :: starEach [] X.env := by rfl) : PE X (.Call (.Name "sorted" p) [.Call (.Name "set" p2) [a] [] q] [] pos) (tSortSetT X.K ta) := by
  refine ⟨fun pins s σ H Q I h => ?_⟩
  refine Call_ (ld_blt I hg hm PyProof.Rows.boot_sorted ?_)
  refine PyProof.Rows.callWith_builtin1 (PyProof.Rows.args_cons ?_ rfl) rfl rfl
  refine Call_ (ld_blt I hg2 hm2 PyProof.Rows.boot_set ?_)
  refine PyProof.Rows.callWith_type1 (PyProof.Rows.args_cons (thn (ha.run pins s σ H _ I h) fun v s1 ⟨x, H1, I1, r1, q1⟩ => PyProof.Rows.args_nil ?_) na) na rfl
  obtain ⟨l, ns, rfl, hq, h1, q1⟩ := q1
  cases r1
  obtain ⟨its, r, pl, hz⟩ := I1.tuple hq
  refine call_set_tupI ns (I1.ok.hd hc) (show s1.heap.IsTuple l its.toArray from pl) (by simpa using r.ints) (by unfold scanBound; omega) fun h' tk c R hcn hk => ?_
  refine PyProof.Rows.args_nil ?_
  have I2 : Inv X pins σ H1 { s1 with heap := h', toks := tk } := I1.kept hk
  refine sorted_set R (I2.ok.hd hc) (by omega) fun s' p out c ms k g o hp hg hi hs hm hl => ?_
  have hlen : (ms.map V.int).length ≤ sizeLine := by rw [List.length_map, hl, sizeLine_eq]; omega
  have hn : H1 p = none := I2.hok.fresh hp
  have J : Inv X pins σ (upd H1 p (.lst (ms.map V.int))) { { s1 with heap := h', toks := tk } with heap := s'.heap, gens := s'.gens, drawn := s'.drawn, toks := s'.toks } :=
    I2.call (ch := []) (Un.laid k hp hn) (I2.hok.laid k hp ⟨hlen, out.toList, c, vals_of_ints hi, hg⟩) (by rw [g]; exact I2.bare) (fun _ z => nomatch z)
  have e : s' = { { s1 with heap := h', toks := tk } with heap := s'.heap, gens := s'.gens, drawn := s'.drawn, toks := s'.toks } := by
    cases s'
    cases s1
    cases o
    rfl
  rw [e]
  exact ⟨.ref p, _, J, rfl, q1 ms p hs (fun k => by rw [hm k]; exact decide_eq_true_iff) hn⟩
end
end L2
namespace GL
open PySem PySem.Spec PyProof.Rows L2
structure T5 (α β γ δ ε : Type) where
  a : α
  b : β
  c : γ
  d : δ
  e : ε
  deriving DecidableEq
section
variable {α β γ δ ε : Type} [Py α] [Py β] [Py γ] [Py δ] [Py ε]
instance : Py (T5 α β γ δ ε) := ⟨fun K S v x => ∃ p a b c d e, v = .ref p ∧ SqT K S p [a, b, c, d, e] ∧ Py.rep K S a x.a ∧ Py.rep K S b x.b ∧ Py.rep K S c x.c ∧ Py.rep K S d x.d ∧ Py.rep K S e x.e,
  fun z ⟨p, a, b, c, d, e, h1, h2, h3, h4, h5, h6, h7⟩ => ⟨p, a, b, c, d, e, h1, seqT z h2, Py.mono z h3, Py.mono z h4, Py.mono z h5, Py.mono z h6, Py.mono z h7⟩⟩
instance [ToD α] [ToD β] [ToD γ] [ToD δ] [ToD ε] : ToD (T5 α β γ δ ε) := ⟨fun x => .tup [ToD.dat x.a, ToD.dat x.b, ToD.dat x.c, ToD.dat x.d, ToD.dat x.e], fun ⟨p, a, b, c, d, e, h1, h2, h3, h4, h5, h6, h7⟩ => by
  rw [h1]; exact .tup h2 (.cons (ToD.of h3) (.cons (ToD.of h4) (.cons (ToD.of h5) (.cons (ToD.of h6) (.cons (ToD.of h7) .nil)))))⟩
class NoL (α : Type) [Py α] : Prop where
  go : ∀ {K : Fg} {S : Hp} {p : Addr} {us : List V} {v : V} {x : α}, S p = some (.lst us) → Py.rep K S v x → Py.rep K (del S p) v x
end
theorem nlT {K : Fg} {S : Hp} {p a : Addr} {us : List V} {vs : List V} (h : S p = some (.lst us)) (r : SqT K S a vs) : SqT K (del S p) a vs := by
  rcases r with (r | ⟨o, r⟩) | r
  · exact .inl (.inl (by rw [del_ne (fun e => by rw [e, h] at r; cases r)]; exact r))
  · exact .inl (.inr ⟨o, by rw [del_ne (fun e => by rw [e, h] at r; cases r)]; exact r⟩)
  · exact .inr r
section
variable {α β γ δ ε : Type} [Py α] [Py β] [Py γ] [Py δ] [Py ε]
theorem nlAll [NoL α] {K : Fg} {S : Hp} {p : Addr} {us : List V} (h : S p = some (.lst us)) : ∀ {vs : List V} {xs : List α}, RepL K S vs xs → RepL K (del S p) vs xs
  | [], [], _ => True.intro
  | _ :: _, _ :: _, r => ⟨NoL.go h r.1, nlAll h r.2⟩
  | [], _ :: _, r => r.elim
  | _ :: _, [], r => r.elim
instance : NoL Int := ⟨fun _ h => h⟩
instance : NoL Bool := ⟨fun _ h => h⟩
instance : NoL Str := ⟨fun _ h => h⟩
instance : NoL Unit := ⟨fun _ h => h⟩
instance [NoL α] : NoL (Tp α) := ⟨fun h ⟨a, vs, h1, h2, h3⟩ => ⟨a, vs, h1, nlT h h2, nlAll h h3⟩⟩
instance [NoL α] [NoL β] : NoL (α × β) := ⟨fun h ⟨a, x, y, h1, h2, h3, h4⟩ => ⟨a, x, y, h1, nlT h h2, NoL.go h h3, NoL.go h h4⟩⟩
instance [NoL α] [NoL β] [NoL γ] : NoL (T3 α β γ) := ⟨fun h ⟨a, x, y, z, h1, h2, h3, h4, h5⟩ => ⟨a, x, y, z, h1, nlT h h2, NoL.go h h3, NoL.go h h4, NoL.go h h5⟩⟩
instance [NoL α] [NoL β] [NoL γ] [NoL δ] [NoL ε] : NoL (T5 α β γ δ ε) := ⟨fun h ⟨p, a, b, c, d, e, h1, h2, h3, h4, h5, h6, h7⟩ => ⟨p, a, b, c, d, e, h1, nlT h h2, NoL.go h h3, NoL.go h h4, NoL.go h h5, NoL.go h h6, NoL.go h h7⟩⟩
instance [NoL α] : NoL (Option α) := ⟨fun {K S p us v x} h r => by
  cases x with
  | none => exact r
  | some y => exact NoL.go (x := y) h r⟩
end
inductive WRow
  | set (p v : Int)
  | add (p q : Int)
  | jump (p r : Int)
  | say (p : Int)
  | take (p : Int)
  | fin
  deriving DecidableEq
instance : Inhabited WRow := ⟨.fin⟩
def sW (s : String) : Str := Str.ofString s
namespace WRow
def word : WRow → Str
  | .set _ _ => Str.ofString "set"
  | .add _ _ => Str.ofString "add"
  | .jump _ _ => Str.ofString "jump"
  | .say _ => Str.ofString "say"
  | .take _ => Str.ofString "take"
  | .fin => Str.ofString "end"
def nums : WRow → List Int
  | .set p v => [p, v]
  | .add p q => [p, q]
  | .jump p r => [p, r]
  | .say p => [p]
  | .take p => [p]
  | .fin => []
def vals (r : WRow) : List V := .str r.word :: r.nums.map V.int
def a1 (r : WRow) : Int := r.nums.getD 0 0
def a2 (r : WRow) : Int := r.nums.getD 1 0
def dat (r : WRow) : PyData := .tuple (.str r.word :: r.nums.map PyData.int)
end WRow
instance : Py WRow := ⟨fun K S v r => ∃ p, v = .ref p ∧ SqT K S p r.vals, fun e ⟨p, h1, h2⟩ => ⟨p, h1, seqT e h2⟩⟩
instance : NoL WRow := ⟨fun h ⟨p, h1, h2⟩ => ⟨p, h1, nlT h h2⟩⟩
theorem nn_row : ∀ (K : Fg) (S : Hp) (v : V) (y : WRow), Py.rep K S v y → v ≠ .non := fun K S v y ⟨p, r, _⟩ e => by
  rw [r] at e
  cases e
section
variable {K : Fg} {B S0 S1 S S' D : Hp} {σ : L2.St} {H H' : Hp} {F : Nat → List Addr} {G G' G1 G2 G3 G4 G5 : List Sl} {ta tb tc td te : TE} {i j l : Nat} {t u : TS} {E : Ends}
section
variable {α β γ δ ε : Type} [Py α] [Py β] [Py γ] [Py δ] [Py ε]
theorem ev_t5 {x : α} {y : β} {z : γ} {w : δ} {v : ε} (ha : EvX K ta G x G1) (hb : EvX K tb G1 y G2) (hc : EvX K tc G2 z G3) (hd : EvX K td G3 w G4) (he : EvX K te G4 v G5) : EvX K (tTup (tCons ta (tCons tb (tCons tc (tCons td (tCons te tNil)))))) G (T5.mk x y z w v) G5 := fun B S0 S σ H F k Q q =>
  ha B S0 S σ H F k _ fun v1 S1 H1 e1 k1 r1 => hb B S0 S1 σ H1 F k1 _ fun v2 S2 H2 e2 k2 r2 => hc B S0 S2 σ H2 F k2 _ fun v3 S3 H3 e3 k3 r3 => hd B S0 S3 σ H3 F k3 _ fun v4 S4 H4 e4 k4 r4 => he B S0 S4 σ H4 F k4 _ fun v5 S5 H5 e5 k5 r5 => ⟨by show 5 ≤ sizeLine; decide, fun p hp => by
    have e6 := same_new (o := .tup [v1, v2, v3, v4, v5]) (k5.free hp).1
    exact q (.ref p) _ _ (((((e1.trans e2).trans e3).trans e4).trans e5).trans e6) (k5.new hp) ⟨p, v1, v2, v3, v4, v5, rfl, SqT.of upd_same, Py.mono ((((e2.trans e3).trans e4).trans e5).trans e6) r1, Py.mono (((e3.trans e4).trans e5).trans e6) r2, Py.mono ((e4.trans e5).trans e6) r3, Py.mono (e5.trans e6) r4, Py.mono e6 r5⟩⟩
variable {w : T5 α β γ δ ε}
theorem tg_t5 {g1 g2 g3 g4 g5 : TG} {t1 t2 t3 t4 t5 : List Nat} (h1 : TgG K g1 w.a G G1 t1) (h2 : TgG K g2 w.b G1 G2 t2) (h3 : TgG K g3 w.c G2 G3 t3) (h4 : TgG K g4 w.d G3 G4 t4) (h5 : TgG K g5 w.e G4 G5 t5) :
    TgG K (gTup K 5 (gCons g1 (gCons g2 (gCons g3 (gCons g4 (gCons g5 gNil)))))) w G G5 (t1 ++ (t2 ++ (t3 ++ (t4 ++ t5)))) :=
  ⟨fun j hj => (((((h5.1 j (notL (notL (notL (notL hj).2).2).2).2).trans (h4.1 j (notL (notL (notL (notL hj).2).2).2).1)).trans (h3.1 j (notL (notL (notL hj).2).2).1)).trans (h2.1 j (notL (notL hj).2).1)).trans (h1.1 j (notL hj).1)), fun B S0 S σ H F v k r Q q => by
  obtain ⟨p, a, b, c, d, e, rfl, hp, ra, rb, rc, rd, re⟩ := r
  refine ⟨p, [a, b, c, d, e], rfl, seqT k.sub hp, rfl, a, [b, c, d, e], rfl, h1.2 B S0 S σ H F a k ra _ fun σ1 k1 o1 w1 => ⟨b, [c, d, e], rfl, h2.2 B S0 S σ1 H F b k1 rb _ fun σ2 k2 o2 w2 => ⟨c, [d, e], rfl, h3.2 B S0 S σ2 H F c k2 rc _ fun σ3 k3 o3 w3 =>
    ⟨d, [e], rfl, h4.2 B S0 S σ3 H F d k3 rd _ fun σ4 k4 o4 w4 => ⟨e, [], rfl, h5.2 B S0 S σ4 H F e k4 re _ fun σ5 k5 o5 w5 => ⟨rfl, q σ5 k5 (fun j hj => ?_) fun vs hv => ?_⟩⟩⟩⟩⟩⟩
  · exact ((((o5 j (notL (notL (notL (notL hj).2).2).2).2).trans (o4 j (notL (notL (notL (notL hj).2).2).2).1)).trans (o3 j (notL (notL (notL hj).2).2).1)).trans (o2 j (notL (notL hj).2).1)).trans (o1 j (notL hj).1)
  · have m1 : ∀ t ∈ t1, t ∈ vs := fun t ht => hv t (List.mem_append_left _ ht)
    have m2 : ∀ t ∈ t2, t ∈ vs := fun t ht => hv t (List.mem_append_right _ (List.mem_append_left _ ht))
    have m3 : ∀ t ∈ t3, t ∈ vs := fun t ht => hv t (List.mem_append_right _ (List.mem_append_right _ (List.mem_append_left _ ht)))
    have m4 : ∀ t ∈ t4, t ∈ vs := fun t ht => hv t (List.mem_append_right _ (List.mem_append_right _ (List.mem_append_right _ (List.mem_append_left _ ht))))
    have m5 : ∀ t ∈ t5, t ∈ vs := fun t ht => hv t (List.mem_append_right _ (List.mem_append_right _ (List.mem_append_right _ (List.mem_append_right _ ht))))
    rw [w5 vs m5, w4 vs m4, w3 vs m3, w2 vs m2, w1 vs m1]⟩
theorem qg_t5 (i j l m n : Nat) (h : EvX K te G w G1) (hi : G1[i]?.isSome = true) (hj : (G1.set i (.im w.a))[j]?.isSome = true) (hl : ((G1.set i (.im w.a)).set j (.im w.b))[l]?.isSome = true) (hm : (((G1.set i (.im w.a)).set j (.im w.b)).set l (.im w.c))[m]?.isSome = true) (hn : ((((G1.set i (.im w.a)).set j (.im w.b)).set l (.im w.c)).set m (.im w.d))[n]?.isSome = true)
    (k : ∀ a b c d e, a = w.a → b = w.b → c = w.c → d = w.d → e = w.e → At K B S0 (u E) (((((G1.set i (.im a)).set j (.im b)).set l (.im c)).set m (.im d)).set n (.im e))) :
    At K B S0 (tSeq (tAsg te (gTup K 5 (gCons (gName i) (gCons (gName j) (gCons (gName l) (gCons (gName m) (gCons (gName n) gNil))))))) u E) G := q_asg h (tg_t5 (tg_name hi) (tg_name hj) (tg_name hl) (tg_name hm) (tg_name hn)) (k _ _ _ _ _ rfl rfl rfl rfl rfl)
theorem ev_slT {xs : Tp α} {tl th : TO} {lo hi : Option Int} (h : EvX K ta G xs G) (hl : EvO K tl G lo) (hh : EvO K th G hi) : EvX K (tSl (rSlA K) ta tl th) G (Tp.mk (cutL xs.l lo hi)) G := fun B S0 S σ H F k Q q =>
  h B S0 S σ H F k _ fun v S1 H1 e1 k1 r1 => hl B S0 S1 σ H1 F k1 _ fun S2 H2 e2 k2 => hh B S0 S2 σ H2 F k2 _ fun S3 H3 e3 k3 => by
    obtain ⟨p, vs, rfl, hp, hr⟩ := Py.mono (e2.trans e3) r1
    have e4 : Same S S3 := (e1.trans e2).trans e3
    refine ⟨p, vs, rfl, seqT k3.sub hp, fun hw => ?_, fun _ l hl => ?_⟩
    · have ec : cutL xs.l lo hi = xs.l := by
        unfold cutL
        rw [hr.len] at hw
        rw [hw.1, hw.2, List.drop_zero, Nat.sub_zero, List.take_length]
      exact q _ S3 H3 e4 k3 ⟨p, vs, rfl, hp, by show RepL K S3 vs (cutL xs.l lo hi); rw [ec]; exact hr⟩
    · have e5 := same_new (o := .tup (cutV vs lo hi)) (k3.free hl).1
      exact q _ _ _ (e4.trans e5) (k3.new hl) ⟨l, _, rfl, SqT.of upd_same, (hr.cut lo hi).mono e5⟩
theorem ev_catT {xs ys : Tp α} (ha : EvX K ta G xs G1) (hb : EvX K tb G1 ys G2) (hz : xs.l.length + ys.l.length ≤ sizeLine) : EvX K (tOp (rCatA K) ta tb) G (Tp.mk (xs.l ++ ys.l)) G2 := fun B S0 S σ H F k Q q =>
  ha B S0 S σ H F k _ fun v S1 H1 e1 k1 r1 => hb B S0 S1 σ H1 F k1 _ fun w S2 H2 e2 k2 r2 => by
    obtain ⟨p, vs, rfl, hp, hr⟩ := Py.mono e2 r1
    obtain ⟨p', vs', rfl, hp', hr'⟩ := r2
    refine ⟨p, p', vs, vs', rfl, rfl, seqT k2.sub hp, seqT k2.sub hp', by rw [hr.len, hr'.len]; exact hz, fun e => ?_, fun _ e => ?_, fun _ _ l hl => ?_⟩
    · have e1' : xs.l = [] := List.eq_nil_of_length_eq_zero (by rw [← hr.len, e]; rfl)
      exact q _ S2 H2 (e1.trans e2) k2 ⟨p', vs', rfl, hp', by show RepL K S2 vs' (xs.l ++ ys.l); rw [e1', List.nil_append]; exact hr'⟩
    · have e1' : ys.l = [] := List.eq_nil_of_length_eq_zero (by rw [← hr'.len, e]; rfl)
      exact q _ S2 H2 (e1.trans e2) k2 ⟨p, vs, rfl, hp, by show RepL K S2 vs (xs.l ++ ys.l); rw [e1', List.append_nil]; exact hr⟩
    · have e5 := same_new (o := .tup (vs ++ vs')) (k2.free hl).1
      exact q _ _ _ ((e1.trans e2).trans e5) (k2.new hl) ⟨l, _, rfl, SqT.of upd_same, (hr.app hr').mono e5⟩
theorem q_par {x : α} {y : β} (ha : EvX K ta G x G1) (hb : EvX K tb G1 y G2) (hi : G2[i]?.isSome = true) (hj : (G2.set i (.im x))[j]?.isSome = true) (k : ∀ a b, a = x → b = y → At K B S0 (u E) ((G2.set i (.im a)).set j (.im b))) : At K B S0 (tSeq (tPar i j (tCons ta (tCons tb tNil))) u E) G := fun S σ H F kn =>
  ha B S0 S σ H F kn _ fun v S1 H1 e1 k1 r1 => hb B S0 S1 σ H1 F k1 _ fun w S2 H2 e2 k2 r2 => ⟨v, w, rfl, k x y rfl rfl S2 _ H2 F ((k2.set (Py.mono e2 r1) hi).set r2 hj)⟩
theorem q_par3 {x : α} {y : β} {z : γ} (ha : EvX K ta G x G1) (hb : EvX K tb G1 y G2) (hc : EvX K tc G2 z G3) (hi : G3[i]?.isSome = true) (hj : (G3.set i (.im x))[j]?.isSome = true) (hl : ((G3.set i (.im x)).set j (.im y))[l]?.isSome = true) (k : ∀ a b c, a = x → b = y → c = z → At K B S0 (u E) (((G3.set i (.im a)).set j (.im b)).set l (.im c))) :
    At K B S0 (tSeq (tPar3 i j l (tCons ta (tCons tb (tCons tc tNil)))) u E) G := fun S σ H F kn =>
  ha B S0 S σ H F kn _ fun v S1 H1 e1 k1 r1 => hb B S0 S1 σ H1 F k1 _ fun w S2 H2 e2 k2 r2 => hc B S0 S2 σ H2 F k2 _ fun z' S3 H3 e3 k3 r3 => ⟨v, w, z', rfl, k x y z rfl rfl rfl S3 _ H3 F (((k3.set (Py.mono (e2.trans e3) r1) hi).set (Py.mono e3 r2) hj).set r3 hl)⟩
end
variable {r : WRow}
theorem ev_row0 (ha : EvX K ta G r G1) : EvX K (tOp (rIxT K) ta (tC (.int 0))) G r.word G1 := fun B S0 S σ H F k Q q =>
  ha B S0 S σ H F k _ fun v S1 H1 e1 k1 r1 => by
    obtain ⟨p, rfl, hp⟩ := r1
    exact ⟨p, _, 0, .str r.word, rfl, rfl, seqT k1.sub hp, atI_nat (j := 0) rfl, q _ S1 H1 e1 k1 rfl⟩
theorem ev_row1 (ha : EvX K ta G r G1) (h : 0 < r.nums.length) : EvX K (tOp (rIxT K) ta (tC (.int 1))) G r.a1 G1 := fun B S0 S σ H F k Q q =>
  ha B S0 S σ H F k _ fun v S1 H1 e1 k1 r1 => by
    obtain ⟨p, rfl, hp⟩ := r1
    refine ⟨p, _, 1, .int r.a1, rfl, rfl, seqT k1.sub hp, atI_nat (j := 1) ?_, q _ S1 H1 e1 k1 rfl⟩
    cases r <;> first | rfl | exact absurd h (by simp [WRow.nums])
theorem ev_row2 (ha : EvX K ta G r G1) (h : 1 < r.nums.length) : EvX K (tOp (rIxT K) ta (tC (.int 2))) G r.a2 G1 := fun B S0 S σ H F k Q q =>
  ha B S0 S σ H F k _ fun v S1 H1 e1 k1 r1 => by
    obtain ⟨p, rfl, hp⟩ := r1
    refine ⟨p, _, 2, .int r.a2, rfl, rfl, seqT k1.sub hp, atI_nat (j := 2) ?_, q _ S1 H1 e1 k1 rfl⟩
    cases r <;> first | rfl | exact absurd h (by simp [WRow.nums])
theorem ev_rowTl (ha : EvX K ta G r G) : EvX K (tSl (rSlA K) ta (tPart (tC (.int 1))) tNoPart) G (Tp.mk r.nums) G := fun B S0 S σ H F k Q q =>
  ha B S0 S σ H F k _ fun v S1 H1 e1 k1 r1 => by
    obtain ⟨p, rfl, hp⟩ := r1
    have hv : r.vals.length = r.nums.length + 1 := by unfold WRow.vals; rw [List.length_cons, List.length_map]
    have h1 : HT.sIx r.vals.length 0 (some 1) = 1 := by
      rw [show (1 : Int) = ((1 : Nat) : Int) from rfl, HT.sIx_nat, hv]
      omega
    refine ⟨1, rfl, p, _, rfl, seqT k1.sub hp, fun hw => ?_, fun _ l hl => ?_⟩
    · rw [h1] at hw
      exact absurd hw.1 (by decide)
    · have e5 := same_new (o := .tup (cutV r.vals (some 1) none)) (k1.free hl).1
      refine q _ _ _ (e1.trans e5) (k1.new hl) ⟨l, _, rfl, SqT.of upd_same, ?_⟩
      have ec : cutV r.vals (some 1) none = r.nums.map V.int := by
        unfold cutV
        rw [h1, HT.sIx_none]
        unfold WRow.vals
        rw [List.drop_succ_cons, List.drop_zero, List.take_of_length_le (by simp)]
      rw [ec]
      exact RepL.of_ints _
theorem ev_sortSetT {xs : Tp Int} (h : EvX K ta G xs G1) (hz : xs.l.length < 64) : EvL K (tSortSetT K ta) G (usrt xs.l) G1 := fun B S0 S σ H F k Q q =>
  h B S0 S σ H F k _ fun v S1 H1 e1 k1 r1 => by
    obtain ⟨p, vs, rfl, hp, hr⟩ := r1
    rw [hr.ints] at hp
    refine ⟨p, xs.l, rfl, seqT k1.sub hp, hz, fun ms l h1 h2 hl => ?_⟩
    have e : ms = usrt xs.l := usrt_eq h1 h2
    subst e
    obtain ⟨a, b, c⟩ := k1.free hl
    exact q l _ S1 _ e1 (k1.raw hl) a b c upd_same (RepL.of_ints _)
theorem ev_mkrow2 {w : Str} {x y : Int} (r : WRow) (ha : EvX K ta G x G1) (hb : EvX K tb G1 y G2) (hr : r.vals = [.str w, .int x, .int y]) : EvX K (tTup (tCons (tC (.str w)) (tCons ta (tCons tb tNil)))) G r G2 := fun B S0 S σ H F k Q q =>
  ha B S0 S σ H F k _ fun v S1 H1 e1 k1 r1 => hb B S0 S1 σ H1 F k1 _ fun v2 S2 H2 e2 k2 r2 => ⟨by show 3 ≤ sizeLine; decide, fun p hp => by
    rw [show v = .int x from r1, show v2 = .int y from r2, ← hr]
    exact q (.ref p) _ _ ((e1.trans e2).trans (same_new (k2.free hp).1)) (k2.new hp) ⟨p, rfl, SqT.of upd_same⟩⟩
theorem ev_mkrow1 {w : Str} {x : Int} (r : WRow) (ha : EvX K ta G x G1) (hr : r.vals = [.str w, .int x]) : EvX K (tTup (tCons (tC (.str w)) (tCons ta tNil))) G r G1 := fun B S0 S σ H F k Q q =>
  ha B S0 S σ H F k _ fun v S1 H1 e1 k1 r1 => ⟨by show 2 ≤ sizeLine; decide, fun p hp => by
    rw [show v = .int x from r1, ← hr]
    exact q (.ref p) _ _ (e1.trans (same_new (k1.free hp).1)) (k1.new hp) ⟨p, rfl, SqT.of upd_same⟩⟩
theorem ev_mkrow0 {w : Str} (r : WRow) (hr : r.vals = [.str w]) : EvX K (tTup (tCons (tC (.str w)) tNil)) G r G := fun B S0 S σ H F k Q q => ⟨by show 1 ≤ sizeLine; decide, fun p hp => by
    rw [← hr]
    exact q (.ref p) _ _ (same_new (k.free hp).1) (k.new hp) ⟨p, rfl, SqT.of upd_same⟩⟩
theorem dp_ints {K : Fg} {H : Hp} : ∀ xs : List Int, DpAll K H (xs.map V.int) (xs.map PyData.int)
  | [] => .nil
  | _ :: xs => .cons (.int _) (dp_ints xs)
theorem row_word (r : WRow) : (PyData.str r.word).canLay0 = true := by
  cases r with
  | set p v => show (PyData.str (Str.ofString "set")).canLay0 = true; decide +kernel
  | add p v => show (PyData.str (Str.ofString "add")).canLay0 = true; decide +kernel
  | jump p v => show (PyData.str (Str.ofString "jump")).canLay0 = true; decide +kernel
  | say p => show (PyData.str (Str.ofString "say")).canLay0 = true; decide +kernel
  | take p => show (PyData.str (Str.ofString "take")).canLay0 = true; decide +kernel
  | fin => show (PyData.str (Str.ofString "end")).canLay0 = true; decide +kernel
theorem row_shaped (r : WRow) : SeqAt.shaped r.dat = true := by
  have h := row_word r
  unfold SeqAt.shaped WRow.dat
  rw [PyData.canLay0, PyData.canLayAll0, h]
  cases r <;> simp [WRow.nums, PyData.canLay0, PyData.canLayAll0, PyData.depth, PyData.depthAll]
theorem row_dp {v : V} (e : Same S H) (h : Py.rep K S v r) : Dp K H v r.dat := by
  obtain ⟨p, h1, h2⟩ := h
  rw [h1]
  exact .tup (seqT e h2) (.cons (.str _) (dp_ints _))
theorem row_eqv (r : WRow) : PyData.eqv r.dat WRow.fin.dat = decide (r = .fin) := by
  cases r <;> simp [WRow.dat, WRow.word, WRow.nums, PyData.eqv, PyData.eqvAll]
theorem ev_rowEnd (ha : EvX K ta G r G1) (hb : EvX K tb G1 WRow.fin G2) : EvX K (tOp (rEqD K) ta tb) G (decide (r = .fin)) G2 := fun B S0 S σ H F k Q q =>
  ha B S0 S σ H F k _ fun v S1 H1 e1 k1 r1 => hb B S0 S1 σ H1 F k1 _ fun w S2 H2 e2 k2 r2 =>
    ⟨_, _, row_dp k2.sub (Py.mono e2 r1), row_dp k2.sub r2, row_shaped r, row_shaped _, q _ S2 H2 (e1.trans e2) k2 (by rw [row_eqv]; rfl)⟩
theorem inV_strs (x : Str) : ∀ xs : List Str, inV (.str x) (xs.map V.str) = decide (x ∈ xs)
  | [] => rfl
  | y :: ys => by
    have ih := inV_strs x ys
    unfold inV at ih ⊢
    rw [List.map_cons, List.any_cons, ih]
    by_cases e : y = x
    · subst e
      simp [eqV]
    · have : ¬ x = y := fun z => e z.symm
      simp [eqV, e, this]
theorem RepL.strs {K : Fg} {S : Hp} : ∀ {vs : List V} {xs : List Str}, RepL K S vs xs → vs = xs.map V.str
  | [], [], _ => rfl
  | _ :: _, _ :: _, h => by
    rw [List.map_cons, ← RepL.strs h.2, show _ = V.str _ from h.1]
  | [], _ :: _, h => h.elim
  | _ :: _, [], h => h.elim
theorem flat_strs : ∀ xs : List Str, (xs.map V.str).all flatV = true
  | [] => rfl
  | _ :: xs => by rw [List.map_cons, List.all_cons, flat_strs xs]; rfl
theorem ev_inTs {x : Str} {xs : Tp Str} (ha : EvX K ta G x G) (hb : EvX K tb G xs G) : EvX K (tOp (rIn K false) ta tb) G (decide (x ∈ xs.l)) G := fun B S0 S σ H F k Q q =>
  ha B S0 S σ H F k _ fun v S1 H1 e1 k1 r1 => hb B S0 S1 σ H1 F k1 _ fun w S2 H2 e2 k2 r2 => by
    obtain ⟨p, vs, rfl, hp, hr⟩ := r2
    rw [hr.strs] at hp
    rw [show v = .str x from r1]
    exact ⟨p, _, rfl, .inr (seqT k2.sub hp), rfl, flat_strs _, q _ S2 H2 (e1.trans e2) k2 (by rw [inV_strs]; rfl)⟩
theorem Kn.relLat {δ : Type} [Py δ] {d : List δ} {p : Addr} {us : List V} (k : Kn K B S0 S σ H F G) (h : G[i]? = some (.ow d)) (hv : σ[i]? = some (some (.ref p))) (hp : F i = [p]) (h1 : H p = some (.lst us)) (h2 : RepL K S us d) : Kn K B S0 (upd S p (.lst us)) σ H (upF F i []) (G.set i (.im d)) := by
  obtain ⟨hs, hb, _⟩ := k.off i p (by rw [hp]; exact List.mem_singleton.mpr rfl)
  have k1 : Kn K B S0 S σ H (upF F i []) (G.set i .no) := by
    refine ⟨k.s0, k.sub, k.keep, k.clean, fun j q hq => ?_, fun a b q ha hb' => ?_, by rw [List.length_set]; exact k.len, fun j s e => ?_⟩
    · by_cases e : j = i
      · rw [e, upF_self] at hq
        cases hq
      · rw [upF_ne e] at hq
        exact k.off j q hq
    · by_cases ea : a = i
      · rw [ea, upF_self] at ha
        cases ha
      · by_cases eb : b = i
        · rw [eb, upF_self] at hb'
          cases hb'
        · rw [upF_ne ea] at ha
          rw [upF_ne eb] at hb'
          exact k.dj a b q ha hb'
    · rcases set_get e with ⟨rfl, rfl⟩ | ⟨ne, e⟩
      · exact True.intro
      · rw [upF_ne ne]
        exact k.sl j s e
  have hf : ∀ j, p ∉ upF F i [] j := fun j hj => by
    by_cases e : j = i
    · rw [e, upF_self] at hj
      cases hj
    · rw [upF_ne e] at hj
      exact e (k.dj j i p hj (by rw [hp]; exact List.mem_singleton.mpr rfl))
  have k2 := k1.settle h1 hs hb hf
  have hl : i < G.length := (List.getElem?_eq_some_iff.mp h).1
  have k3 := k2.set (i := i) (v := .ref p) (x := d) ⟨p, us, rfl, upd_same, h2.mono (same_new hs)⟩ (by rw [List.getElem?_set_self hl]; rfl)
  have e1 : σ.set i (some (.ref p)) = σ := by
    apply List.ext_getElem?
    intro j
    by_cases e : i = j
    · subst e
      rw [List.getElem?_set_self (by rw [← k.len]; exact hl)]
      exact hv.symm
    · rw [List.getElem?_set_ne e]
  rw [e1, List.set_set] at k3
  exact k3
theorem ev_callBL {δ α β : Type} [Py δ] [PyA α] [Py β] [NoL β] {f : α → β} {pre : α → Prop} {a : α} {t : TA} {E : XK} {d : List δ} (hi : G[i]? = some (.ow d)) (ha : EvV K t (G.set i (.im d)) a) (hp : pre a) : EvX K (tCall (spF K f pre) [] E t) G (f a) G := fun B S0 S σ H F k Q q => by
  obtain ⟨v, hv, p, us, rfl, hF, h1, h2⟩ := k.ow hi
  obtain ⟨hs, hb, _⟩ := k.off i p (by rw [hF]; exact List.mem_singleton.mpr rfl)
  have k' := k.relLat hi hv hF h1 h2
  refine ha B S0 _ σ H _ k' _ fun vs r => ?_
  show spF K f pre (vs ++ []) H _ E
  rw [List.append_nil]
  refine ⟨upd S p (.lst us), a, k'.sub, r, hp, fun w S2 H2 g r2 => ?_⟩
  have gl := g.lent hs
  exact q w (del S2 p) H2 gl.s (k.grow gl) (NoL.go (g.s _ _ upd_same) r2)
end
end GL
namespace GL
open PySem PySem.Spec PyProof.Rows L2
structure T4 (α β γ δ : Type) where
  a : α
  b : β
  c : γ
  d : δ
  deriving DecidableEq
section
variable {α β γ δ ε : Type} [Py α] [Py β] [Py γ] [Py δ] [Py ε]
instance : Py (T4 α β γ δ) := ⟨fun K S v x => ∃ p a b c d, v = .ref p ∧ SqT K S p [a, b, c, d] ∧ Py.rep K S a x.a ∧ Py.rep K S b x.b ∧ Py.rep K S c x.c ∧ Py.rep K S d x.d,
  fun z ⟨p, a, b, c, d, h1, h2, h3, h4, h5, h6⟩ => ⟨p, a, b, c, d, h1, seqT z h2, Py.mono z h3, Py.mono z h4, Py.mono z h5, Py.mono z h6⟩⟩
instance (priority := 500) [Dq α] [Dq β] [Dq γ] [Dq δ] : Dq (T4 α β γ δ) := ⟨fun x => .tuple [Dq.dat x.a, Dq.dat x.b, Dq.dat x.c, Dq.dat x.d], fun x => Dq.ok x.a ∧ Dq.ok x.b ∧ Dq.ok x.c ∧ Dq.ok x.d, fun e ⟨p, a, b, c, d, h1, h2, h3, h4, h5, h6⟩ => by rw [h1]; exact .tup (seqT e h2) (.cons (Dq.dp e h3) (.cons (Dq.dp e h4) (.cons (Dq.dp e h5) (.cons (Dq.dp e h6) .nil)))),
  fun x h => by simp [PyData.canLay0, PyData.canLayAll0, Dq.lay _ h.1, Dq.lay _ h.2.1, Dq.lay _ h.2.2.1, Dq.lay _ h.2.2.2], max (Dq.dep α) (max (Dq.dep β) (max (Dq.dep γ) (Dq.dep δ))) + 1, fun x => by
    have h1 := Dq.dle x.a
    have h2 := Dq.dle x.b
    have h3 := Dq.dle x.c
    have h4 := Dq.dle x.d
    simp only [PyData.depth, PyData.depthAll]
    omega, fun x y => by
    simp only [PyData.eqv, PyData.eqvAll, Bool.and_eq_true, Dq.eq, and_true]
    cases x; cases y
    simp⟩
variable {K : Fg} {G G1 G2 G3 G4 : List Sl} {ta tb tc td : TE}
end
section
variable {K : Fg} {G G1 G2 : List Sl} {ta tb : TE}
end
end GL
namespace GL
open PySem PySem.Spec PyProof.Rows L2
namespace Dct
variable {α : Type}
theorem find_map (k : Int) (x : α) (j : Int) : ∀ l : List (Int × α), ((l.map fun kv => if kv.1 = k then (kv.1, x) else kv).find? fun kv => decide (kv.1 = j)).map (·.2) = ((l.find? fun kv => decide (kv.1 = j)).map (·.2)).map fun y => if j = k then x else y
  | [] => rfl
  | p :: l => by
    rw [List.map_cons, List.find?_cons, List.find?_cons]
    by_cases h1 : p.1 = j
    · by_cases h2 : p.1 = k
      · have : j = k := h1.symm.trans h2
        subst this
        simp [h1]
      · have : ¬ j = k := fun e => h2 (h1.trans e)
        simp [h1, this]
    · have ih := find_map k x j l
      by_cases h2 : p.1 = k
      · simp only [h2, if_true]
        have h3 : ¬ k = j := fun e => h1 (h2.trans e)
        simp only [decide_eq_false h3]
        exact ih
      · simp only [h2, if_false, decide_eq_false h1]
        exact ih
theorem any_find (k : Int) : ∀ l : List (Int × α), (l.any fun kv => decide (kv.1 = k)) = ((l.find? fun kv => decide (kv.1 = k)).map (·.2)).isSome
  | [] => rfl
  | p :: l => by
    rw [List.any_cons, List.find?_cons, any_find k l]
    by_cases h : p.1 = k
    · simp [h]
    · simp [h]
theorem find_snoc (k : Int) (x : α) (j : Int) : ∀ l : List (Int × α), ((l ++ [(k, x)]).find? fun kv => decide (kv.1 = j)).map (·.2) = match (l.find? fun kv => decide (kv.1 = j)).map (·.2) with | some y => some y | none => if j = k then some x else none
  | [] => by
    by_cases h : k = j
    · subst h; simp
    · have : ¬ j = k := fun e => h e.symm
      simp [h, this]
  | p :: l => by
    rw [List.cons_append, List.find?_cons, List.find?_cons]
    by_cases h : p.1 = j
    · simp [h]
    · simp only [decide_eq_false h]
      exact find_snoc k x j l
theorem get?_put (d : Dct α) (k : Int) (x : α) (j : Int) : (d.put k x).get? j = if j = k then some x else d.get? j := by
  unfold get? put
  by_cases h : (d.l.any fun kv => decide (kv.1 = k)) = true
  · simp only [h, if_true]
    rw [find_map]
    by_cases e : j = k
    · subst e
      rw [any_find] at h
      cases q : (d.l.find? fun kv => decide (kv.1 = j)).map (·.2) with
      | none => rw [q] at h; cases h
      | some y => simp
    · simp only [e, if_false]
      cases (d.l.find? fun kv => decide (kv.1 = j)).map (·.2) <;> rfl
  · simp only [h, if_false, Bool.false_eq_true]
    rw [find_snoc]
    by_cases e : j = k
    · subst e
      rw [any_find] at h
      cases q : (d.l.find? fun kv => decide (kv.1 = j)).map (·.2) with
      | none => simp
      | some y => rw [q] at h; exact absurd rfl h
    · simp only [e, if_false]
      cases (d.l.find? fun kv => decide (kv.1 = j)).map (·.2) <;> rfl
theorem get?_del (d : Dct α) (k j : Int) : (d.del k).get? j = if j = k then none else d.get? j := by
  unfold get? del
  show ((d.l.filter fun kv => decide (kv.1 ≠ k)).find? fun kv => decide (kv.1 = j)).map (·.2) = _
  induction d.l with
  | nil => simp
  | cons p l ih =>
    rw [List.filter_cons]
    by_cases h : p.1 = k
    · rw [if_neg (by simp [h]), ih, List.find?_cons]
      by_cases e : j = k
      · simp [e]
      · have : ¬ p.1 = j := fun q => e (q.symm.trans h)
        simp [e, this]
    · rw [if_pos (by simp [h]), List.find?_cons, List.find?_cons]
      by_cases e : p.1 = j
      · have : ¬ j = k := fun q => h (e.trans q)
        simp [e, this]
      · simp only [decide_eq_false e]
        exact ih
def Ok (d : Dct α) (m : Int) : Prop := (d.l.map (·.1)).Nodup ∧ ∀ k ∈ d.l.map (·.1), 0 ≤ k ∧ k < m
theorem Ok.emp {m : Int} : Ok (emp : Dct α) m := ⟨List.nodup_nil, fun _ h => by simp [Dct.emp] at h⟩
theorem keys_put (d : Dct α) (k : Int) (x : α) : (d.put k x).l.map (·.1) = if (d.l.any fun kv => decide (kv.1 = k)) = true then d.l.map (·.1) else d.l.map (·.1) ++ [k] := by
  unfold put
  by_cases h : (d.l.any fun kv => decide (kv.1 = k)) = true
  · simp only [h, if_true]
    rw [List.map_map]
    apply List.map_congr_left
    intro p _
    show (if p.1 = k then (p.1, x) else p).1 = p.1
    split <;> rfl
  · simp only [h, if_false, Bool.false_eq_true]
    rw [List.map_append]
    rfl
theorem Ok.put {d : Dct α} {m : Int} (h : d.Ok m) {k : Int} (x : α) (hk : 0 ≤ k ∧ k < m) : (d.put k x).Ok m := by
  unfold Ok
  rw [keys_put]
  by_cases q : (d.l.any fun kv => decide (kv.1 = k)) = true
  · rw [if_pos q]
    exact h
  · rw [if_neg q]
    refine ⟨?_, fun j hj => ?_⟩
    · refine L2.nd_snoc h.1 fun hm => q ?_
      obtain ⟨p, hp, e⟩ := List.mem_map.mp hm
      exact List.any_eq_true.mpr ⟨p, hp, decide_eq_true e⟩
    · rcases List.mem_append.mp hj with z | z
      · exact h.2 j z
      · rw [List.mem_singleton.mp z]
        exact hk
theorem Ok.del {d : Dct α} {m : Int} (h : d.Ok m) (k : Int) : (d.del k).Ok m := by
  refine ⟨?_, fun j hj => ?_⟩
  · show ((d.l.filter fun kv => decide (kv.1 ≠ k)).map (·.1)).Nodup
    exact (List.Sublist.map _ (List.filter_sublist)).nodup h.1
  · obtain ⟨p, hp, e⟩ := List.mem_map.mp hj
    exact h.2 j (List.mem_map.mpr ⟨p, (List.mem_filter.mp hp).1, e⟩)
theorem nodup_le : ∀ (n : Nat) (l : List Int), l.Nodup → (∀ k ∈ l, 0 ≤ k ∧ k < (n : Int)) → l.length ≤ n
  | 0, l, _, h => by
    cases l with
    | nil => exact Nat.le_refl _
    | cons x l => exact absurd (h x List.mem_cons_self) (by omega)
  | n + 1, l, hn, h => by
    have h1 := nodup_le n (l.filter fun k => decide (k ≠ (n : Int))) (List.filter_sublist.nodup hn) fun k hk => by
      obtain ⟨a, b⟩ := List.mem_filter.mp hk
      have := h k a
      have : k ≠ (n : Int) := of_decide_eq_true b
      omega
    have h2 : l.length ≤ (l.filter fun k => decide (k ≠ (n : Int))).length + 1 := by
      clear h h1
      induction l with
      | nil => exact Nat.zero_le _
      | cons x l ih =>
        obtain ⟨q1, q2⟩ := List.nodup_cons.mp hn
        rw [List.filter_cons]
        by_cases e : x = (n : Int)
        · rw [if_neg (by simp [e])]
          have : l.filter (fun k => decide (k ≠ (n : Int))) = l := by
            apply List.filter_eq_self.mpr
            intro k hk
            exact decide_eq_true fun z => q1 (e.trans z.symm ▸ hk)
          rw [this, List.length_cons]
          exact Nat.le_refl _
        · rw [if_pos (by simp [e]), List.length_cons, List.length_cons]
          have := ih q2
          omega
    omega
theorem Ok.len {d : Dct α} {n : Nat} (h : d.Ok (n : Int)) : d.l.length ≤ n := by
  have := nodup_le n (d.l.map (·.1)) h.1 h.2
  rw [List.length_map] at this
  exact this
theorem Ok.small {d : Dct α} (h : d.Ok 1000) : d.l.length < sizeLine := Nat.lt_of_le_of_lt (Ok.len (n := 1000) h) (by decide)
end Dct
theorem dix_of {α : Type} [Inhabited α] {d : Dct α} {k : Int} {x : α} (h : d.get? k = some x) : dix d k = x := by
  unfold dix
  rw [h]
  rfl
theorem mem_rng {a b x : Int} : x ∈ rng a b ↔ a ≤ x ∧ x < b := by
  unfold rng
  rw [List.mem_map]
  constructor
  · rintro ⟨i, hi, rfl⟩
    rw [List.mem_range] at hi
    omega
  · intro h
    refine ⟨(x - a).toNat, List.mem_range.mpr (by omega), by omega⟩
theorem len_rng (a b : Int) : (rng a b).length = (b - a).toNat := by
  unfold rng
  rw [List.length_map, List.length_range]
theorem rng_get {a b : Int} {i : Nat} (h : i < (b - a).toNat) : (rng a b)[i]? = some (a + (i : Int)) := by
  unfold rng
  rw [List.getElem?_map, List.getElem?_range h]
  rfl
theorem rng_succ {a b : Int} (h : a ≤ b) : rng a (b + 1) = rng a b ++ [b] := by
  unfold rng
  rw [show (b + 1 - a).toNat = (b - a).toNat + 1 by omega, List.range_succ, List.map_append]
  congr 1
  rw [List.map_cons, List.map_nil]
  congr 1
  omega
theorem rng_nil {a b : Int} (h : b ≤ a) : rng a b = [] := by
  unfold rng
  rw [show (b - a).toNat = 0 by omega]
  rfl
theorem rng_sorted (a b : Int) : (rng a b).Pairwise (· < ·) := by
  unfold rng
  rw [List.pairwise_map]
  exact List.pairwise_lt_range.imp fun h => by omega
theorem rng_nodup (a b : Int) : (rng a b).Nodup := by
  have h := (rng_sorted a b)
  exact h.imp fun q => by omega
theorem rng_pre {a b x : Int} {pre post : List Int} (h : pre ++ x :: post = rng a b) : pre = rng a x ∧ x = a + pre.length ∧ a ≤ x ∧ x < b := by
  have hx : (rng a b)[pre.length]? = some x := by
    rw [← h, List.getElem?_append_right (Nat.le_refl _), Nat.sub_self]
    rfl
  have hl : pre.length < (b - a).toNat := by
    have := congrArg List.length h
    rw [List.length_append, List.length_cons, len_rng] at this
    omega
  rw [rng_get hl] at hx
  have ex : a + (pre.length : Int) = x := Option.some.inj hx
  refine ⟨?_, ex.symm, by omega, by omega⟩
  apply List.ext_getElem?
  intro i
  by_cases hi : i < pre.length
  · have : (rng a b)[i]? = pre[i]? := by rw [← h, List.getElem?_append_left hi]
    rw [← this, rng_get (by omega), rng_get (by omega)]
  · rw [List.getElem?_eq_none (by omega), List.getElem?_eq_none (by rw [len_rng]; omega)]
theorem enumI_snoc {α : Type} (xs : List α) (x : α) : enumI (xs ++ [x]) = enumI xs ++ [((xs.length : Int), x)] := by
  unfold enumI
  rw [List.zipIdx_append, List.map_append]
  simp
theorem mem_enumI {α : Type} {xs : List α} {p : Int × α} : p ∈ enumI xs ↔ 0 ≤ p.1 ∧ xs[p.1.toNat]? = some p.2 := by
  unfold enumI
  rw [List.mem_map]
  constructor
  · rintro ⟨q, hq, rfl⟩
    have h := List.mem_zipIdx_iff_getElem?.mp hq
    exact ⟨by simp, by simpa using h⟩
  · rintro ⟨h0, h⟩
    refine ⟨(p.2, p.1.toNat), List.mem_zipIdx_iff_getElem?.mpr (by simpa using h), ?_⟩
    apply Prod.ext
    · show ((p.1.toNat : Nat) : Int) = p.1
      omega
    · rfl
theorem len_enumI {α : Type} (xs : List α) : (enumI xs).length = xs.length := by
  unfold enumI
  rw [List.length_map, List.length_zipIdx]
instance : Inhabited (Tp Int) := ⟨⟨[]⟩⟩
structure TrOk (trace : List (Tp Int)) : Prop where
  len : trace.length ≤ 100000
  mem : ∀ t ∈ trace, ∀ s ∈ t.l, 0 ≤ s ∧ s < 1000
theorem ix_mem {α : Type} [Inhabited α] {xs : List α} {i : Int} (h0 : 0 ≤ i) (h : i < xs.length) : ix xs i ∈ xs := List.mem_of_getElem? (ix_at h0 h)
def writtenStep (trace : List (Tp Int)) (found : Dct Int) (tick : Int) : Dct Int := (ix trace tick).l.foldl (fun f x => f.put x tick) found
def writtenIn (trace : List (Tp Int)) (start stop : Int) : Dct Int := (rng start (min stop trace.length)).foldl (writtenStep trace) Dct.emp
def lastN (trace : List (Tp Int)) : Nat → Int → Option Int
  | 0, _ => none
  | n + 1, s => if s ∈ (trace.getD n ⟨[]⟩).l then some (n : Int) else lastN trace n s
theorem get?_puts (tick : Int) (s : Int) : ∀ (l : List Int) (d : Dct Int), (l.foldl (fun f x => f.put x tick) d).get? s = if s ∈ l then some tick else d.get? s
  | [], d => by simp
  | x :: l, d => by
    rw [List.foldl_cons, get?_puts tick s l, Dct.get?_put]
    by_cases h1 : s ∈ l
    · simp [h1]
    · by_cases h2 : s = x
      · simp [h2]
      · simp [h1, h2]
theorem lastN_more (trace : List (Tp Int)) (s : Int) : ∀ n, trace.length ≤ n → lastN trace n s = lastN trace trace.length s := by
  intro n h
  induction n with
  | zero => rw [show trace.length = 0 by omega]
  | succ n ih =>
    by_cases e : trace.length = n + 1
    · rw [e]
    · rw [lastN, if_neg, ih (by omega)]
      rw [List.getD_eq_getElem?_getD, List.getElem?_eq_none (by omega)]
      simp
theorem written_last (trace : List (Tp Int)) (s : Int) : ∀ n : Nat, n ≤ trace.length → ((rng 0 (n : Int)).foldl (writtenStep trace) Dct.emp).get? s = lastN trace n s
  | 0, _ => by rw [rng_nil (by omega)]; rfl
  | n + 1, h => by
    rw [show ((n + 1 : Nat) : Int) = (n : Int) + 1 by omega, rng_succ (by omega), List.foldl_append, List.foldl_cons, List.foldl_nil]
    show ((ix trace (n : Int)).l.foldl (fun (f : Dct Int) x => f.put x (n : Int)) _).get? s = _
    rw [get?_puts, written_last trace s n (by omega), lastN]
    have : ix trace (n : Int) = trace.getD n ⟨[]⟩ := by unfold ix; rfl
    rw [this]
theorem writtenIn_get (trace : List (Tp Int)) (stop s : Int) : (writtenIn trace 0 stop).get? s = lastN trace stop.toNat s := by
  unfold writtenIn
  by_cases h : stop < 0
  · rw [rng_nil (by omega), show stop.toNat = 0 by omega]
    rfl
  · by_cases h2 : stop ≤ trace.length
    · rw [Int.min_eq_left h2]
      have e : stop = ((stop.toNat : Nat) : Int) := by omega
      rw [e]
      rw [written_last trace s stop.toNat (by omega)]
      rfl
    · rw [Int.min_eq_right (by omega), written_last trace s trace.length (Nat.le_refl _), lastN_more trace s stop.toNat (by omega)]
end GL
namespace GL
open PySem PySem.Spec PyProof.Rows L2
structure SzOk (y : T3 Int Int Int) : Prop where
  n0 : 1 ≤ y.a
  n1 : y.a ≤ 12
  b0 : 1 ≤ y.b
  b1 : y.b ≤ 6
  s0 : 0 ≤ y.c
  s1 : y.c ≤ 12
structure RowOk (n : Int) (t : Tp Int) : Prop where
  up : t.l.Pairwise (· < ·)
  bd : ∀ s ∈ t.l, 0 ≤ s ∧ s < n
structure TrLaw (n most : Int) (tr : List (Tp Int)) : Prop where
  len : (tr.length : Int) ≤ most
  row : ∀ t ∈ tr, RowOk n t
theorem Dct.Ok.mono {α : Type} {d : Dct α} {m m' : Int} (h : d.Ok m) (hm : m ≤ m') : d.Ok m' := ⟨h.1, fun k hk => by have := h.2 k hk; omega⟩
theorem TrLaw.ok {n most : Int} {tr : List (Tp Int)} (h : TrLaw n most tr) (hn : n ≤ 1000) (hm : most ≤ 100000) : TrOk tr := ⟨by have := h.len; omega, fun t ht s hs => by have := (h.row t ht).bd s hs; omega⟩
end GL
namespace GL
open PySem PySem.Spec PyProof.Rows L2
def someM (z : Pen) (n most : Int) : Tp Int × Pen := (⟨(pickX (fun st (_ : Int) => decide ((penTake st n).1 < most)) (fun x => x) (fun st _ => (penTake st n).2) (rng 0 n) z).1⟩, (rng 0 n).foldl (fun st _ => (penTake st n).2) z)
theorem all_snoc {δ : Type} {P : δ → Prop} {f : List δ} {x : δ} (h : ∀ t ∈ f, P t) (hx : P x) : ∀ t ∈ f ++ [x], P t := fun t ht => by
  rcases List.mem_append.mp ht with q | q
  · exact h t q
  · rw [List.mem_singleton.mp q]; exact hx
abbrev Tch := List (Tp Int × Tp Int)
theorem RowOk.len9 {n : Int} {t : Tp Int} (h : RowOk n t) : t.l.length ≤ n.toNat := Dct.nodup_le n.toNat t.l (h.up.imp fun q => by omega) fun k hk => by have := h.bd k hk; omega
def TchOk (n : Int) (y : Tch) : Prop := ∀ t ∈ y, RowOk n t.1 ∧ RowOk n t.2
def wrD (d : Dct Bool) (ws : List Int) : Dct Bool := ws.foldl (fun f x => f.put x true) d
def ndNew (needed : List Int) (written : Dct Bool) (reads : List Int) : List Int := reads.filter fun x => !decide (x ∈ needed) && !(written.get? x).isSome
abbrev LlS := List Int × Dct Bool × Int × Option Int
def llStep (st : LlS) (it : Int × (Tp Int × Tp Int)) : LlS :=
  (st.1 ++ ndNew st.1 st.2.1 it.2.1.l, wrD st.2.1 it.2.2.l,
   if decide (st.2.2.1 < (((st.1 ++ ndNew st.1 st.2.1 it.2.1.l).length : Int) - it.1)) = true then ((st.1 ++ ndNew st.1 st.2.1 it.2.1.l).length : Int) - it.1 else st.2.2.1,
   if decide (st.2.2.1 < (((st.1 ++ ndNew st.1 st.2.1 it.2.1.l).length : Int) - it.1)) = true then some it.1 else st.2.2.2)
@[irreducible] def llM (n : Int) (y : Tch) : T3 (List Int) Int (Option Int) :=
  ⟨((enumI y).foldl llStep ([], Dct.emp, 0, none)).1 ++ (rng 0 n).filter (fun x => !decide (x ∈ ((enumI y).foldl llStep ([], Dct.emp, 0, none)).1)), ((enumI y).foldl llStep ([], Dct.emp, 0, none)).2.2.1, ((enumI y).foldl llStep ([], Dct.emp, 0, none)).2.2.2⟩
theorem wrD_ok {n : Int} (hn : n ≤ 1000) : ∀ {ws : List Int} {d : Dct Bool}, d.Ok 1000 → (∀ x ∈ ws, 0 ≤ x ∧ x < n) → (wrD d ws).Ok 1000
  | [], d, h, _ => h
  | x :: ws, d, h, hw => wrD_ok hn (ws := ws) (d := d.put x true) (h.put _ (by have := hw x List.mem_cons_self; omega)) fun y hy => hw y (List.mem_cons_of_mem _ hy)
theorem ll_ok {n : Int} (hn : n ≤ 1000) : ∀ (l : List (Int × (Tp Int × Tp Int))) (st : LlS), (∀ p ∈ l, RowOk n p.2.1 ∧ RowOk n p.2.2) → st.2.1.Ok 1000 → (l.foldl llStep st).2.1.Ok 1000 ∧ (l.foldl llStep st).1.length ≤ st.1.length + 1000 * l.length
  | [], st, _, h => ⟨h, Nat.le_refl _⟩
  | p :: l, st, hl, h => by
    rw [List.foldl_cons, List.length_cons]
    obtain ⟨h1, h2⟩ := hl p List.mem_cons_self
    have h3 : (llStep st p).2.1.Ok 1000 := wrD_ok hn h h2.bd
    obtain ⟨a1, a2⟩ := ll_ok hn l (llStep st p) (fun q hq => hl q (List.mem_cons_of_mem _ hq)) h3
    refine ⟨a1, ?_⟩
    have h4 : (llStep st p).1.length ≤ st.1.length + 1000 := by
      show (st.1 ++ ndNew st.1 st.2.1 p.2.1.l).length ≤ _
      rw [List.length_append]
      have := List.length_filter_le (fun x => !decide (x ∈ st.1) && !(st.2.1.get? x).isSome) p.2.1.l
      have := h1.len9
      unfold ndNew
      omega
    omega
theorem enum_tch {n : Int} {y : Tch} (h : TchOk n y) {pre : List (Int × (Tp Int × Tp Int))} (hp : ∀ p ∈ pre, p ∈ enumI y) : ∀ p ∈ pre, RowOk n p.2.1 ∧ RowOk n p.2.2 := fun p hq => h p.2 (List.mem_of_getElem? (mem_enumI.mp (hp p hq)).2)
def waStep (st : List Int × List Int) (t : Tp Int × Tp Int) : List Int × List Int := (st.1 ++ t.2.l, st.2 ++ t.1.l.filter fun x => !decide (x ∈ st.2) && !decide (x ∈ st.1))
@[irreducible] def wantM (y : Tch) : Int := ((y.foldl waStep ([], [])).2.length : Int)
theorem mem_cut3 {δ : Type} {pre post l : List δ} {x : δ} (e : pre ++ x :: post = l) : ∀ p ∈ pre ++ [x], p ∈ l := fun p hp => by
  rw [← e]
  rcases List.mem_append.mp hp with q | q
  · exact List.mem_append_left _ q
  · rw [List.mem_singleton.mp q]; simp
def laM (reads : List Int) (written : Dct Bool) (came : Dct Int) (now : Int) : List Int := reads.filter fun p => !(written.get? p).isSome && decide (now ≤ (came.get? p).getD now)
def leM (order : List Int) (written : Dct Bool) (came : Dct Int) : List Int := order.filter fun p => !(written.get? p).isSome && !(came.get? p).isSome
def goX (reads order : List Int) (written : Dct Bool) (asks : Bool) (s : Dct Int × Int) : Int := ix [ix (leM order written s.1) 0, ix (laM reads written s.1 s.2) 0] (if asks = true then 1 else 0)
def goM (reads order : List Int) (written : Dct Bool) (asks : Bool) : Nat → Dct Int × Int → Dct Int × Int
  | 0, s => s
  | k + 1, s => if laM reads written s.1 s.2 = [] then s else goM reads order written asks k (s.1.put (goX reads order written asks s) s.2, s.2 + 1)
def CameOk (came : Dct Int) (now : Int) : Prop := (∀ x c, came.get? x = some c → c < now) ∧ came.Ok 1000
theorem la_none {reads : List Int} {written : Dct Bool} {came : Dct Int} {now x : Int} (h : CameOk came now) (hx : x ∈ laM reads written came now) : x ∈ reads ∧ (written.get? x).isSome = false ∧ (came.get? x).isSome = false := by
  obtain ⟨h1, h2⟩ := List.mem_filter.mp hx
  obtain ⟨h3, h4⟩ := Bool.and_eq_true_iff.mp h2
  refine ⟨h1, by simpa using h3, ?_⟩
  cases e : came.get? x with
  | none => rfl
  | some c =>
    rw [e] at h4
    have := h.1 x c e
    have := of_decide_eq_true h4
    dsimp only [Option.getD] at this
    omega
theorem le_of_la {reads order : List Int} {written : Dct Bool} {came : Dct Int} {now x : Int} (h : CameOk came now) (ho : ∀ x ∈ reads, x ∈ order) (hx : x ∈ laM reads written came now) : x ∈ leM order written came := by
  obtain ⟨h1, h2, h3⟩ := la_none h hx
  exact List.mem_filter.mpr ⟨ho x h1, by rw [h2, h3]; rfl⟩
theorem ix0_mem {xs : List Int} (h : xs ≠ []) : ix xs 0 ∈ xs := ix_mem (by omega) (by have := List.length_pos_iff.mpr h; omega)
theorem goX_mem {reads order : List Int} {written : Dct Bool} {asks : Bool} {came : Dct Int} {now : Int} (h : CameOk came now) (ho : ∀ x ∈ reads, x ∈ order) (hl : laM reads written came now ≠ []) : goX reads order written asks (came, now) ∈ leM order written came := by
  have h1 := le_of_la h ho (ix0_mem hl)
  unfold goX
  cases asks with
  | true => exact h1
  | false => exact ix0_mem (List.ne_nil_of_mem h1)
theorem le_less {order : List Int} {written : Dct Bool} {came : Dct Int} {x now : Int} (hx : x ∈ leM order written came) : (leM order written (came.put x now)).length < (leM order written came).length := by
  have e : leM order written (came.put x now) = (leM order written came).filter fun p => decide (p ≠ x) := by
    unfold leM
    rw [List.filter_filter]
    apply List.filter_congr
    intro p _
    rw [Dct.get?_put]
    by_cases q : p = x
    · rw [if_pos q, decide_eq_false (by simpa using q)]
      simp
    · rw [if_neg q, decide_eq_true (by simpa using q)]
      simp
  rw [e]
  have := List.length_filter_lt_length_iff_exists (p := fun p => decide (p ≠ x)) (l := leM order written came)
  exact this.mpr ⟨x, hx, by simp⟩
theorem CameOk.put {came : Dct Int} {now x : Int} (h : CameOk came now) (hx : 0 ≤ x ∧ x < 1000) : CameOk (came.put x now) (now + 1) := by
  refine ⟨fun y c e => ?_, h.2.put _ hx⟩
  rw [Dct.get?_put] at e
  by_cases q : y = x
  · rw [if_pos q] at e
    have : now = c := Option.some.inj e
    omega
  · rw [if_neg q] at e
    have := h.1 y c e
    omega
theorem goM_end {reads order : List Int} {written : Dct Bool} {asks : Bool} {f : Nat} {s : Dct Int × Int} (h : laM reads written s.1 s.2 = []) : goM reads order written asks f s = s := by
  cases f with
  | zero => rfl
  | succ f => rw [goM, if_pos h]
def GoI (reads order : List Int) (written : Dct Bool) (asks : Bool) (X : Dct Int × Int) (st : Dct Int × Int × List Int) : Prop :=
  st.2.2 = laM reads written st.1 st.2.1 ∧ CameOk st.1 st.2.1 ∧ ∃ f, goM reads order written asks f (st.1, st.2.1) = X ∧ (leM order written st.1).length < f
theorem GoI.next {reads order : List Int} {written : Dct Bool} {asks : Bool} {X : Dct Int × Int} {came : Dct Int} {now : Int} {lacks : List Int} (I : GoI reads order written asks X (came, now, lacks)) (ho : ∀ x ∈ reads, x ∈ order) (hb : ∀ x ∈ order, 0 ≤ x ∧ x < 1000) (hl : lacks ≠ []) :
    GoI reads order written asks X (came.put (goX reads order written asks (came, now)) now, now + 1, laM reads written (came.put (goX reads order written asks (came, now)) now) (now + 1)) ∧ (leM order written (came.put (goX reads order written asks (came, now)) now)).length < (leM order written came).length := by
  obtain ⟨h1, h2, f, h3, h4⟩ := I
  dsimp only at h1 h2 h3 h4
  rw [h1] at hl
  have hm := goX_mem (asks := asks) h2 ho hl
  have hd := le_less (now := now) hm
  have hx := hb _ (List.mem_filter.mp hm).1
  refine ⟨⟨rfl, h2.put hx, ?_⟩, hd⟩
  cases f with
  | zero => omega
  | succ f =>
    rw [goM, if_neg hl] at h3
    exact ⟨f, h3, by dsimp only; omega⟩
abbrev PlS := Dct Int × Dct Bool × List Int × Int
def plStep (order : List Int) (asks : Bool) (st : PlS) (t : Tp Int × Tp Int) : PlS :=
  ((cutL (leM order (wrD st.2.1 t.2.l) (goM t.1.l order st.2.1 asks (order.length + 1) (st.1, st.2.2.2)).1) none (some 1)).foldl (fun d p => d.put p (goM t.1.l order st.2.1 asks (order.length + 1) (st.1, st.2.2.2)).2) (goM t.1.l order st.2.1 asks (order.length + 1) (st.1, st.2.2.2)).1,
   wrD st.2.1 t.2.l, st.2.2.1 ++ [(goM t.1.l order st.2.1 asks (order.length + 1) (st.1, st.2.2.2)).2], (goM t.1.l order st.2.1 asks (order.length + 1) (st.1, st.2.2.2)).2 + 1)
@[irreducible] def playG (y : Tch) (order : List Int) (asks : Bool) : List Int × Int :=
  ((y.foldl (plStep order asks) (Dct.emp, Dct.emp, [], 0)).2.2.1, maxL ([0] ++ (cutL (y.foldl (plStep order asks) (Dct.emp, Dct.emp, [], 0)).2.2.1 none (some 1)).map fun _ => lastI (y.foldl (plStep order asks) (Dct.emp, Dct.emp, [], 0)).2.2.1 - ((y.foldl (plStep order asks) (Dct.emp, Dct.emp, [], 0)).2.2.1.length : Int) + 1))
theorem goM_ok {reads order : List Int} {written : Dct Bool} {asks : Bool} (ho : ∀ x ∈ reads, x ∈ order) (hb : ∀ x ∈ order, 0 ≤ x ∧ x < 1000) : ∀ (f : Nat) {s : Dct Int × Int}, CameOk s.1 s.2 → CameOk (goM reads order written asks f s).1 (goM reads order written asks f s).2
  | 0, s, h => h
  | f + 1, s, h => by
    rw [goM]
    split
    · exact h
    · rename_i hl
      exact goM_ok ho hb f (h.put (hb _ (List.mem_filter.mp (goX_mem h ho hl)).1))
theorem puts_ok {now : Int} : ∀ (l : List Int) {d : Dct Int}, (∀ x ∈ l, 0 ≤ x ∧ x < 1000) → (∀ x c, d.get? x = some c → c < now + 1) → d.Ok 1000 → CameOk (l.foldl (fun d p => d.put p now) d) (now + 1)
  | [], d, _, h, h2 => ⟨h, h2⟩
  | x :: l, d, hl, h, h2 => puts_ok l (d := d.put x now) (fun y hy => hl y (List.mem_cons_of_mem _ hy)) (fun y c e => by
      rw [Dct.get?_put] at e
      by_cases q : y = x
      · rw [if_pos q] at e
        have : now = c := Option.some.inj e
        omega
      · rw [if_neg q] at e
        exact h y c e) (h2.put _ (hl x List.mem_cons_self))
def PlOk (st : PlS) : Prop := CameOk st.1 st.2.2.2 ∧ st.2.1.Ok 1000
theorem pl_ok {n : Int} {order : List Int} {asks : Bool} (hn : n ≤ 1000) (hc : ∀ x, 0 ≤ x → x < n → x ∈ order) (hb : ∀ x ∈ order, 0 ≤ x ∧ x < 1000) : ∀ (l : Tch) (st : PlS), TchOk n l → PlOk st → PlOk (l.foldl (plStep order asks) st) ∧ (l.foldl (plStep order asks) st).2.2.1.length = st.2.2.1.length + l.length
  | [], st, _, h => ⟨h, rfl⟩
  | t :: l, st, hl, h => by
    rw [List.foldl_cons, List.length_cons]
    obtain ⟨h1, h2⟩ := hl t List.mem_cons_self
    have hor : ∀ x ∈ t.1.l, x ∈ order := fun x hx => hc x (h1.bd x hx).1 (h1.bd x hx).2
    have hg := goM_ok (written := st.2.1) (asks := asks) hor hb (order.length + 1) (s := (st.1, st.2.2.2)) h.1
    have h3 : PlOk (plStep order asks st t) := ⟨puts_ok _ (fun x hx => hb x (List.mem_filter.mp (List.mem_of_mem_drop (List.mem_of_mem_take hx))).1) (fun x c e => by have := hg.1 x c e; omega) hg.2, wrD_ok hn h.2 h2.bd⟩
    obtain ⟨a1, a2⟩ := pl_ok hn hc hb l (plStep order asks st t) (fun q hq => hl q (List.mem_cons_of_mem _ hq)) h3
    refine ⟨a1, ?_⟩
    rw [a2]
    show (st.2.2.1 ++ [_]).length + l.length = _
    rw [List.length_append, List.length_singleton]
    omega
end GL
namespace GL
open PySem PySem.Spec PyProof.Rows L2
theorem erase_perm {α : Type} : ∀ (l : List α) (i : Nat) (h : i < l.length), (l[i] :: l.eraseIdx i).Perm l
  | [], _, h => absurd h (Nat.not_lt_zero _)
  | x :: l, 0, _ => List.Perm.refl _
  | x :: l, i + 1, h => by
    show (l[i]'(Nat.lt_of_succ_lt_succ h) :: x :: l.eraseIdx i).Perm (x :: l)
    exact (List.Perm.swap x _ _).trans ((erase_perm l i (Nat.lt_of_succ_lt_succ h)).cons x)
abbrev OrS := Pen × List Int
def orE (st : OrS) (_ : Int) : Int := ix st.2 (penTake st.1 (st.2.length : Int)).1
def orStep (st : OrS) (_ : Int) : OrS := ((penTake st.1 (st.2.length : Int)).2, st.2.eraseIdx (penTake st.1 (st.2.length : Int)).1.toNat)
theorem or_in {st : OrS} (h : st.2 ≠ []) : 0 ≤ (penTake st.1 (st.2.length : Int)).1 ∧ (penTake st.1 (st.2.length : Int)).1 < (st.2.length : Int) := pen_bd _ (by have := List.length_pos_iff.mpr h; omega)
theorem or_fold : ∀ (xs : List Int) (st : OrS), xs.length ≤ st.2.length → (xs.foldl orStep st).2.length = st.2.length - xs.length ∧ Anch.fp (xs.foldl orStep st).1 = Anch.fp st.1
  | [], st, _ => ⟨rfl, rfl⟩
  | x :: xs, st, h => by
    rw [List.length_cons] at h
    have hb := or_in (st := st) (fun e => by rw [e] at h; simp at h)
    have hl : (orStep st x).2.length = st.2.length - 1 := by
      show (st.2.eraseIdx _).length = _
      rw [List.length_eraseIdx, if_pos (by omega)]
    obtain ⟨h1, h2⟩ := or_fold xs (orStep st x) (by rw [hl]; omega)
    rw [List.foldl_cons, List.length_cons]
    refine ⟨by rw [h1, hl]; omega, h2.trans ?_⟩
    exact pen_fp _ _
theorem or_perm : ∀ (xs a : List Int) (st : OrS), xs.length ≤ st.2.length → ((xs.foldl (fun (a : List Int × OrS) x => (a.1 ++ [orE a.2 x], orStep a.2 x)) (a, st)).1 ++ (xs.foldl orStep st).2).Perm (a ++ st.2)
  | [], a, st, _ => List.Perm.refl _
  | x :: xs, a, st, h => by
    rw [List.length_cons] at h
    have hb := or_in (st := st) (fun e => by rw [e] at h; simp at h)
    have hl : (orStep st x).2.length = st.2.length - 1 := by
      show (st.2.eraseIdx _).length = _
      rw [List.length_eraseIdx, if_pos (by omega)]
    have ih := or_perm xs (a ++ [orE st x]) (orStep st x) (by rw [hl]; omega)
    rw [List.foldl_cons, List.foldl_cons]
    refine ih.trans ?_
    rw [List.append_assoc]
    refine List.Perm.append_left a ?_
    have hi : (penTake st.1 (st.2.length : Int)).1.toNat < st.2.length := by omega
    have e : orE st x = st.2[(penTake st.1 (st.2.length : Int)).1.toNat] := by
      have := ix_at (xs := st.2) hb.1 hb.2
      rw [List.getElem?_eq_getElem hi] at this
      exact (Option.some.inj this).symm
    rw [e]
    exact erase_perm st.2 _ hi
@[irreducible] def orderM (z : Pen) (n : Int) : List Int := (mapX orE orStep (rng 0 n) (z, rng 0 n)).1
theorem order_perm (z : Pen) (n : Int) : (orderM z n).Perm (rng 0 n) := by
  have h := or_perm (rng 0 n) [] (z, rng 0 n) (Nat.le_refl _)
  have h2 := (or_fold (rng 0 n) (z, rng 0 n) (Nat.le_refl _)).1
  have h3 : ((rng 0 n).foldl orStep (z, rng 0 n)).2 = [] := List.eq_nil_of_length_eq_zero (by rw [h2]; exact Nat.sub_self _)
  rw [h3, List.append_nil, List.nil_append] at h
  unfold orderM mapX
  exact h
def nextM (order : List Int) (here : Dct Bool) : Option Int := order.find? fun x => !(here.get? x).isSome
def lackQ (reads : List Int) (here : Dct Bool) : List Int := reads.filter fun x => !(here.get? x).isSome
def HereR (here written : Dct Bool) (came : Dct Int) : Prop := ∀ x, (here.get? x).isSome = ((written.get? x).isSome || (came.get? x).isSome)
theorem lack_la {reads : List Int} {here written : Dct Bool} {came : Dct Int} {now : Int} (h : HereR here written came) (hc : CameOk came now) : lackQ reads here = laM reads written came now := by
  unfold lackQ laM
  apply List.filter_congr
  intro x _
  rw [h x]
  cases e : came.get? x with
  | none => simp
  | some c =>
    have := hc.1 x c e
    simp only [Option.isSome_some, Bool.or_true, Bool.not_true, Option.getD_some]
    rw [decide_eq_false (by omega), Bool.and_false]
theorem lackQ_le {order : List Int} {here written : Dct Bool} {came : Dct Int} (h : HereR here written came) : lackQ order here = leM order written came := by
  unfold lackQ leM
  apply List.filter_congr
  intro x _
  rw [h x, Bool.not_or]
theorem next_lack (order : List Int) (here : Dct Bool) : nextM order here = (lackQ order here).head? := by
  unfold nextM lackQ
  rw [List.head?_filter]
theorem HereR.put {here written : Dct Bool} {came : Dct Int} (h : HereR here written came) (x now : Int) : HereR (here.put x true) written (came.put x now) := fun y => by
  rw [Dct.get?_put, Dct.get?_put]
  by_cases e : y = x
  · rw [if_pos e, if_pos e]
    simp
  · rw [if_neg e, if_neg e]
    exact h y
theorem HereR.wr : ∀ (ws : List Int) {here written : Dct Bool} {came : Dct Int}, HereR here written came → HereR (wrD here ws) (wrD written ws) came
  | [], _, _, _, h => h
  | x :: ws, here, written, came, h => HereR.wr ws (here := here.put x true) (written := written.put x true) fun y => by
    rw [Dct.get?_put, Dct.get?_put]
    by_cases e : y = x
    · rw [if_pos e, if_pos e]
      simp
    · rw [if_neg e, if_neg e]
      exact h y
def GbI (reads order : List Int) (written : Dct Bool) (asks : Bool) (X : Dct Int × Int) (st : Dct Bool × Int) : Prop :=
  ∃ came, HereR st.1 written came ∧ st.1.Ok 1000 ∧ GoI reads order written asks X (came, st.2, laM reads written came st.2)
theorem head_ix {xs : List Int} (h : xs ≠ []) : xs.head? = some (ix xs 0) := by
  cases xs with
  | nil => exact absurd rfl h
  | cons x xs => rfl
def comM (reads order : List Int) (here : Dct Bool) (asks : Bool) : Option Int := if asks = true then some (ix (lackQ reads here) 0) else nextM order here
theorem GbI.next {reads order : List Int} {written here : Dct Bool} {asks : Bool} {X : Dct Int × Int} {now : Int} (I : GbI reads order written asks X (here, now)) (ho : ∀ x ∈ reads, x ∈ order) (hb : ∀ x ∈ order, 0 ≤ x ∧ x < 1000) (hl : lackQ reads here ≠ []) :
    (comM reads order here asks).isSome = true ∧ (0 ≤ (comM reads order here asks).getD default ∧ (comM reads order here asks).getD default < 1000) ∧ GbI reads order written asks X (here.put ((comM reads order here asks).getD default) true, now + 1) ∧ (lackQ order (here.put ((comM reads order here asks).getD default) true)).length < (lackQ order here).length := by
  obtain ⟨came, h1, hok, h2⟩ := I
  dsimp only at h1 h2 hok
  have hcam := h2.2.1
  dsimp only at hcam
  have hla := lack_la (reads := reads) h1 hcam
  have hl' : laM reads written came now ≠ [] := by rw [← hla]; exact hl
  obtain ⟨n1, n2⟩ := h2.next ho hb hl'
  have hm := goX_mem (asks := asks) hcam ho hl'
  have e : comM reads order here asks = some (goX reads order written asks (came, now)) := by
    unfold comM goX
    rw [next_lack, hla, lackQ_le h1]
    cases asks with
    | true => rfl
    | false =>
      rw [if_neg (by decide)]
      exact head_ix (List.ne_nil_of_mem hm)
  have hx := hb _ (List.mem_filter.mp hm).1
  rw [e]
  have h4 := h1.put (goX reads order written asks (came, now)) now
  refine ⟨rfl, hx, ⟨_, h4, hok.put _ hx, n1⟩, ?_⟩
  show (lackQ order (here.put (goX reads order written asks (came, now)) true)).length < _
  rw [lackQ_le h4, lackQ_le h1]
  exact n2
theorem GbI.stop {reads order : List Int} {written here : Dct Bool} {asks : Bool} {X : Dct Int × Int} {now : Int} (I : GbI reads order written asks X (here, now)) (hl : lackQ reads here = []) : HereR here written X.1 ∧ X.2 = now ∧ CameOk X.1 now ∧ here.Ok 1000 := by
  obtain ⟨came, h1, hok, h2, h3, f, h4, h5⟩ := I
  dsimp only at h1 h3 h4 hok
  have hla := lack_la (reads := reads) h1 h3
  have e : X = (came, now) := by rw [← h4, goM_end (by rw [← hla]; exact hl)]
  rw [e]
  exact ⟨h1, rfl, h3, hok⟩
def GnI (order : List Int) (asks : Bool) (pre : Tch) (st : Dct Bool × List Int × Int) : Prop :=
  ∃ came written, pre.foldl (plStep order asks) (Dct.emp, Dct.emp, [], 0) = (came, written, st.2.1, st.2.2) ∧ HereR st.1 written came ∧ st.1.Ok 1000 ∧ (pre.length : Int) ≤ st.2.2 ∧ st.2.1.length = pre.length ∧ (st.2.1 ≠ [] → lastI st.2.1 + 1 = st.2.2)
theorem GnI.start (order : List Int) (asks : Bool) : GnI order asks [] (Dct.emp, [], 0) := ⟨Dct.emp, Dct.emp, rfl, fun x => rfl, Dct.Ok.emp, Int.le_refl _, rfl, fun h => absurd rfl h⟩
theorem goM_ge {reads order : List Int} {written : Dct Bool} {asks : Bool} : ∀ (f : Nat) (s : Dct Int × Int), s.2 ≤ (goM reads order written asks f s).2
  | 0, s => Int.le_refl _
  | f + 1, s => by
    rw [goM]
    split
    · exact Int.le_refl _
    · have := goM_ge (reads := reads) (order := order) (written := written) (asks := asks) f (s.1.put (goX reads order written asks s) s.2, s.2 + 1)
      dsimp only at this
      exact Int.le_trans (by omega) this
theorem lastI_snoc (xs : List Int) (x : Int) : lastI (xs ++ [x]) = x := by
  unfold lastI ix
  simp
theorem GnI.step {order : List Int} {asks : Bool} {pre : Tch} {t : Tp Int × Tp Int} {came : Dct Int} {written here here2 : Dct Bool} {done : List Int} {now : Int}
    (hst : pre.foldl (plStep order asks) (Dct.emp, Dct.emp, [], 0) = (came, written, done, now)) (hlen : (pre.length : Int) ≤ now) (hdl : done.length = pre.length)
    (h : HereR here (wrD written t.2.l) (goM t.1.l order written asks (order.length + 1) (came, now)).1)
    (h2 : here2 = match nextM order here with | none => here | some x => here.put x true) (hok : here2.Ok 1000) :
    GnI order asks (pre ++ [t]) (here2, done ++ [(goM t.1.l order written asks (order.length + 1) (came, now)).2], (goM t.1.l order written asks (order.length + 1) (came, now)).2 + 1) := by
  have hge := goM_ge (reads := t.1.l) (order := order) (written := written) (asks := asks) (order.length + 1) (came, now)
  dsimp only at hge
  refine ⟨_, _, by rw [List.foldl_append, hst]; rfl, ?_, hok, ?_, ?_, ?_⟩
  · show HereR here2 (wrD written t.2.l) ((cutL (leM order (wrD written t.2.l) (goM t.1.l order written asks (order.length + 1) (came, now)).1) none (some 1)).foldl (fun d p => d.put p (goM t.1.l order written asks (order.length + 1) (came, now)).2) (goM t.1.l order written asks (order.length + 1) (came, now)).1)
    rw [h2, next_lack, lackQ_le h]
    cases leM order (wrD written t.2.l) (goM t.1.l order written asks (order.length + 1) (came, now)).1 with
    | nil => exact h
    | cons x xs => exact h.put x _
  · rw [List.length_append, List.length_singleton]
    dsimp only
    omega
  · dsimp only
    rw [List.length_append, List.length_append, hdl]
    rfl
  · intro _
    dsimp only
    rw [lastI_snoc]
theorem GnI.end {order : List Int} {asks : Bool} {y : Tch} {here : Dct Bool} {done : List Int} {now : Int} (I : GnI order asks y (here, done, now)) :
    playG y order asks = (done, if done = [] then 0 else lastI done - (done.length : Int) + 1) := by
  obtain ⟨came, written, h1, h2, _, h3, h4, h5⟩ := I
  dsimp only at h1 h3 h4 h5
  unfold playG
  rw [h1]
  dsimp only
  cases done with
  | nil => rfl
  | cons x xs =>
    have h6 := h5 (by simp)
    rw [if_neg (by simp)]
    have e : cutL (x :: xs) none (some 1) = [x] := rfl
    rw [e]
    congr 1
    show max (0 : Int) (lastI (x :: xs) - ((x :: xs).length : Int) + 1) = _
    omega
theorem find_no {here : Dct Bool} {pre : List Int} (h : ∀ y ∈ pre, (here.get? y).isSome = true) : pre.find? (fun x => !(here.get? x).isSome) = none := by
  rw [List.find?_eq_none]
  intro y hy
  rw [h y hy]
  decide
theorem find_at {here : Dct Bool} {pre post : List Int} {x : Int} (h : ∀ y ∈ pre, (here.get? y).isSome = true) (hx : (here.get? x).isSome = false) : (pre ++ x :: post).find? (fun x => !(here.get? x).isSome) = some x := by
  rw [List.find?_append, find_no h, Option.none_or, List.find?_cons, hx]
  rfl
theorem put_next {order : List Int} {here : Dct Bool} (h : (nextM order here).isSome = true) : here.put ((nextM order here).getD default) true = match nextM order here with | none => here | some x => here.put x true := by
  cases e : nextM order here with
  | none => rw [e] at h; cases h
  | some x => rfl
theorem no_next {order : List Int} {here : Dct Bool} (h : (nextM order here).isSome = false) : here = match nextM order here with | none => here | some x => here.put x true := by
  cases e : nextM order here with
  | none => rfl
  | some x => rw [e] at h; cases h
theorem next_bd {order : List Int} {here : Dct Bool} (hb : ∀ x ∈ order, 0 ≤ x ∧ x < 1000) (h : (nextM order here).isSome = true) : 0 ≤ (nextM order here).getD default ∧ (nextM order here).getD default < 1000 := by
  cases e : nextM order here with
  | none => rw [e] at h; cases h
  | some x => exact hb x (List.mem_of_find?_eq_some e)
end GL
namespace GL
open PySem PySem.Spec PyProof.Rows L2
def WRow.isSet : WRow → Bool
  | .set _ _ => true
  | _ => false
theorem isSet_w (r : WRow) : decide (r.word = Str.ofString "set") = r.isSet := by
  cases r with
  | set _ _ => exact (by decide +kernel : decide (Str.ofString "set" = Str.ofString "set") = true)
  | add _ _ => exact (by decide +kernel : decide (Str.ofString "add" = Str.ofString "set") = false)
  | jump _ _ => exact (by decide +kernel : decide (Str.ofString "jump" = Str.ofString "set") = false)
  | say _ => exact (by decide +kernel : decide (Str.ofString "say" = Str.ofString "set") = false)
  | take _ => exact (by decide +kernel : decide (Str.ofString "take" = Str.ofString "set") = false)
  | fin => exact (by decide +kernel : decide (Str.ofString "end" = Str.ofString "set") = false)
def WRow.isAdd : WRow → Bool
  | .add _ _ => true
  | _ => false
theorem isAdd_w (r : WRow) : decide (r.word = Str.ofString "add") = r.isAdd := by
  cases r with
  | set _ _ => exact (by decide +kernel : decide (Str.ofString "set" = Str.ofString "add") = false)
  | add _ _ => exact (by decide +kernel : decide (Str.ofString "add" = Str.ofString "add") = true)
  | jump _ _ => exact (by decide +kernel : decide (Str.ofString "jump" = Str.ofString "add") = false)
  | say _ => exact (by decide +kernel : decide (Str.ofString "say" = Str.ofString "add") = false)
  | take _ => exact (by decide +kernel : decide (Str.ofString "take" = Str.ofString "add") = false)
  | fin => exact (by decide +kernel : decide (Str.ofString "end" = Str.ofString "add") = false)
def WRow.isJump : WRow → Bool
  | .jump _ _ => true
  | _ => false
theorem isJump_w (r : WRow) : decide (r.word = Str.ofString "jump") = r.isJump := by
  cases r with
  | set _ _ => exact (by decide +kernel : decide (Str.ofString "set" = Str.ofString "jump") = false)
  | add _ _ => exact (by decide +kernel : decide (Str.ofString "add" = Str.ofString "jump") = false)
  | jump _ _ => exact (by decide +kernel : decide (Str.ofString "jump" = Str.ofString "jump") = true)
  | say _ => exact (by decide +kernel : decide (Str.ofString "say" = Str.ofString "jump") = false)
  | take _ => exact (by decide +kernel : decide (Str.ofString "take" = Str.ofString "jump") = false)
  | fin => exact (by decide +kernel : decide (Str.ofString "end" = Str.ofString "jump") = false)
def WRow.isSay : WRow → Bool
  | .say _ => true
  | _ => false
theorem isSay_w (r : WRow) : decide (r.word = Str.ofString "say") = r.isSay := by
  cases r with
  | set _ _ => exact (by decide +kernel : decide (Str.ofString "set" = Str.ofString "say") = false)
  | add _ _ => exact (by decide +kernel : decide (Str.ofString "add" = Str.ofString "say") = false)
  | jump _ _ => exact (by decide +kernel : decide (Str.ofString "jump" = Str.ofString "say") = false)
  | say _ => exact (by decide +kernel : decide (Str.ofString "say" = Str.ofString "say") = true)
  | take _ => exact (by decide +kernel : decide (Str.ofString "take" = Str.ofString "say") = false)
  | fin => exact (by decide +kernel : decide (Str.ofString "end" = Str.ofString "say") = false)
def WRow.isTake : WRow → Bool
  | .take _ => true
  | _ => false
theorem isTake_w (r : WRow) : decide (r.word = Str.ofString "take") = r.isTake := by
  cases r with
  | set _ _ => exact (by decide +kernel : decide (Str.ofString "set" = Str.ofString "take") = false)
  | add _ _ => exact (by decide +kernel : decide (Str.ofString "add" = Str.ofString "take") = false)
  | jump _ _ => exact (by decide +kernel : decide (Str.ofString "jump" = Str.ofString "take") = false)
  | say _ => exact (by decide +kernel : decide (Str.ofString "say" = Str.ofString "take") = false)
  | take _ => exact (by decide +kernel : decide (Str.ofString "take" = Str.ofString "take") = true)
  | fin => exact (by decide +kernel : decide (Str.ofString "end" = Str.ofString "take") = false)
def WRow.isFin : WRow → Bool
  | .fin => true
  | _ => false
theorem in_js (r : WRow) : decide (r.word ∈ [Str.ofString "jump", Str.ofString "say"]) = (r.isJump || r.isSay) := by
  rw [← isJump_w, ← isSay_w]
  simp [List.mem_cons]
theorem in_sat (r : WRow) : decide (r.word ∈ [Str.ofString "set", Str.ofString "add", Str.ofString "take"]) = (r.isSet || (r.isAdd || r.isTake)) := by
  rw [← isSet_w, ← isAdd_w, ← isTake_w]
  simp [List.mem_cons]
abbrev Prog := T3 Int Int (Tp WRow)
abbrev Stand := Int × Tp Int
abbrev TickR := T5 Stand Str (Option Int) (Tp Int) (Tp Int)
def RowV (n w many : Int) : WRow → Prop
  | .set p v => (0 ≤ p ∧ p < n) ∧ 0 ≤ v ∧ v < w
  | .add p q => (0 ≤ p ∧ p < n) ∧ 0 ≤ q ∧ q < n
  | .jump p r => (0 ≤ p ∧ p < n) ∧ 0 ≤ r ∧ r < many
  | .say p => 0 ≤ p ∧ p < n
  | .take p => 0 ≤ p ∧ p < n
  | .fin => True
structure ProgOk (g : Prog) : Prop where
  n0 : 1 ≤ g.a
  n1 : g.a ≤ 12
  w0 : 2 ≤ g.b
  w1 : g.b ≤ 100
  m0 : 1 ≤ g.c.l.length
  m1 : g.c.l.length ≤ 20
  rows : ∀ r ∈ g.c.l, RowV g.a g.b g.c.l.length r
structure StandOk (g : Prog) (s : Stand) : Prop where
  a0 : 0 ≤ s.1
  a1 : s.1 ≤ g.c.l.length
  len : (s.2.l.length : Int) = g.a
  nums : ∀ x ∈ s.2.l, 0 ≤ x ∧ x < g.b
def rowAtM (g : Prog) (s : Stand) : Option WRow := if (decide (s.1 = (g.c.l.length : Int)) || decide (ix g.c.l s.1 = WRow.fin)) = true then none else some (ix g.c.l s.1)
def readsM : WRow → Tp Int
  | .add p q => ⟨usrt [p, q]⟩
  | .jump p _ => ⟨[p]⟩
  | .say p => ⟨[p]⟩
  | _ => ⟨[]⟩
def writesM : WRow → Tp Int
  | .set p _ => ⟨[p]⟩
  | .add p _ => ⟨[p]⟩
  | .take p => ⟨[p]⟩
  | _ => ⟨[]⟩
def withM (sheets : Tp Int) (sheet number : Int) : Tp Int := ⟨cutL sheets.l none (some sheet) ++ [number] ++ cutL sheets.l (some (sheet + 1)) none⟩
def dSh (w : Int) (sheets : Tp Int) (letters : List Int) : WRow → Tp Int
  | .set p v => withM sheets p v
  | .add p q => withM sheets p ((ix sheets.l p + ix sheets.l q) % w)
  | .take p => withM sheets p (ix letters 0)
  | _ => sheets
def dWo : WRow → Str
  | .say _ => Str.ofString "said"
  | .take _ => Str.ofString "took"
  | _ => Str.ofString "did"
def dNu (sheets : Tp Int) (letters : List Int) : WRow → Option Int
  | .say p => some (ix sheets.l p)
  | .take _ => some (ix letters 0)
  | _ => none
def dGo (at_ : Int) (sheets : Tp Int) : WRow → Int
  | .jump p r => if decide (ix sheets.l p = 0) = true then r else at_ + 1
  | _ => at_ + 1
def doneM (g : Prog) (s : Stand) (r : WRow) (letters : List Int) : TickR := ⟨(dGo s.1 s.2 r, dSh g.b s.2 letters r), dWo r, dNu s.2 letters r, readsM r, writesM r⟩
@[irreducible] def tickM (g : Prog) (s : Stand) (letters : List Int) : TickR := match rowAtM g s with
  | none => ⟨s, Str.ofString "ended", none, ⟨[]⟩, ⟨[]⟩⟩
  | some r => if (r.isTake && decide (letters = [])) = true then ⟨s, Str.ofString "waits", none, ⟨[]⟩, ⟨[]⟩⟩ else doneM g s r letters
theorem with_set {sheets : Tp Int} {p v : Int} (h : 0 ≤ p ∧ p < sheets.l.length) : withM sheets p v = ⟨sheets.l.set p.toNat v⟩ := by
  obtain ⟨l⟩ := sheets
  unfold withM
  congr 1
  dsimp only at h ⊢
  have e : p = ((p.toNat : Nat) : Int) := by omega
  have e1 : p + 1 = ((p.toNat + 1 : Nat) : Int) := by omega
  unfold cutL
  rw [e1, e, HT.sIx_none, HT.sIx_none, HT.sIx_nat, HT.sIx_nat, Nat.min_eq_left (by omega), Nat.min_eq_left (by omega), List.drop_zero, Nat.sub_zero, Int.toNat_natCast,
    List.take_of_length_le (l := l.drop (p.toNat + 1)) (by rw [List.length_drop]; omega), List.set_eq_take_append_cons_drop, if_pos (by omega), List.append_assoc]
  rfl
theorem usrt_two (p q : Int) : usrt [p, q] = cutL [min p q, max p q] (some (if decide (p = q) = true then 1 else 0)) none := by
  symm
  by_cases e : p = q
  · subst e
    rw [decide_eq_true rfl, if_pos rfl]
    refine usrt_eq ?_ fun k => ?_
    · show List.Pairwise _ [max p p]
      exact List.pairwise_singleton _ _
    · show k ∈ [max p p] ↔ _
      rw [show max p p = p by omega]
      simp
  · rw [decide_eq_false e, if_neg (by decide)]
    refine usrt_eq ?_ fun k => ?_
    · show List.Pairwise _ [min p q, max p q]
      simp
      omega
    · show k ∈ [min p q, max p q] ↔ _
      simp
      omega
@[irreducible] def rowM (z : Pen) (n w many : Int) (takes : Bool) : WRow × Pen :=
  let way := penTake z 14
  let p := penTake way.2 n
  if decide (way.1 < 3) = true then (.set p.1 (penTake p.2 w).1, (penTake p.2 w).2)
  else if decide (way.1 < 7) = true then (.add p.1 (penTake p.2 n).1, (penTake p.2 n).2)
  else if decide (way.1 < 9) = true then (.jump p.1 (penTake p.2 many).1, (penTake p.2 many).2)
  else if decide (way.1 < 11) = true then (.say p.1, p.2)
  else if (decide (way.1 < 13) && takes) = true then (.take p.1, p.2)
  else if decide (way.1 < 13) = true then (.add p.1 p.1, p.2)
  else (ix [.fin, .jump p.1 (penTake p.2 many).1, .say p.1] (penTake (penTake p.2 many).2 3).1, (penTake (penTake p.2 many).2 3).2)
theorem row_fp (z : Pen) (n w many : Int) (takes : Bool) : Anch.fp (rowM z n w many takes).2 = Anch.fp z := by
  unfold rowM
  dsimp only
  repeat' split
  all_goals simp only [pen_fp]
def RowT (takes : Bool) (r : WRow) : Prop := r.isTake = true → takes = true
theorem rowM_ok {z : Pen} {n w many : Int} {takes : Bool} (hn : 0 < n) (hw : 0 < w) (hm : 0 < many) : RowV n w many (rowM z n w many takes).1 ∧ RowT takes (rowM z n w many takes).1 := by
  unfold rowM
  dsimp only
  have h1 := pen_bd (penTake z 14).2 hn
  have h2 := pen_bd (penTake (penTake z 14).2 n).2 hw
  have h3 := pen_bd (penTake (penTake z 14).2 n).2 hn
  have h4 := pen_bd (penTake (penTake z 14).2 n).2 hm
  split
  · exact ⟨⟨h1, h2⟩, fun h => nomatch h⟩
  split
  · exact ⟨⟨h1, h3⟩, fun h => nomatch h⟩
  split
  · exact ⟨⟨h1, h4⟩, fun h => nomatch h⟩
  split
  · exact ⟨h1, fun h => nomatch h⟩
  split
  · rename_i h; exact ⟨h1, fun _ => (Bool.and_eq_true_iff.mp h).2⟩
  split
  · exact ⟨⟨h1, h1⟩, fun h => nomatch h⟩
  · have h5 := pen_bd (penTake (penTake (penTake z 14).2 n).2 many).2 (m := 3) (by decide)
    have e : (penTake (penTake (penTake (penTake z 14).2 n).2 many).2 3).1 = 0 ∨ (penTake (penTake (penTake (penTake z 14).2 n).2 many).2 3).1 = 1 ∨ (penTake (penTake (penTake (penTake z 14).2 n).2 many).2 3).1 = 2 := by omega
    rcases e with e | e | e <;> rw [e]
    · exact ⟨True.intro, fun h => nomatch h⟩
    · exact ⟨⟨h1, h4⟩, fun h => nomatch h⟩
    · exact ⟨h1, fun h => nomatch h⟩
def shE (w : Int) (st : Pen) (_ : Int) : Int := (penTake (penTake st 3).2 (ix [w, 1] (if decide ((penTake st 3).1 = 0) = true then 1 else 0))).1
def shStep (w : Int) (st : Pen) (_ : Int) : Pen := (penTake (penTake st 3).2 (ix [w, 1] (if decide ((penTake st 3).1 = 0) = true then 1 else 0))).2
@[irreducible] def sheetsM (z : Pen) (g : Prog) : Tp Int × Pen := (⟨(mapX (shE g.b) (shStep g.b) (rng 0 g.a) z).1⟩, (mapX (shE g.b) (shStep g.b) (rng 0 g.a) z).2)
theorem sh_pos {w : Int} {b : Bool} (hw : 0 < w) : 0 < ix [w, 1] (if b = true then 1 else 0) ∧ ix [w, 1] (if b = true then 1 else 0) ≤ max w 1 := by
  cases b
  · show 0 < w ∧ w ≤ max w 1
    omega
  · show (0 : Int) < 1 ∧ (1 : Int) ≤ max w 1
    omega
theorem sheets_fp (z : Pen) (g : Prog) : Anch.fp (sheetsM z g).2 = Anch.fp z := by
  unfold sheetsM
  exact mapX_inv (fun st => Anch.fp st = Anch.fp z) (fun s x h => by unfold shStep; rw [pen_fp, pen_fp]; exact h) (rng 0 g.a) z rfl
theorem sheets_ok {z : Pen} {g : Prog} (h0 : 0 ≤ g.a) (hw : 0 < g.b) : ((sheetsM z g).1.l.length : Int) = g.a ∧ ∀ x ∈ (sheetsM z g).1.l, 0 ≤ x ∧ x < g.b := by
  unfold sheetsM
  dsimp only
  refine ⟨by rw [mapX_len, len_rng]; omega, mapX_all (fun x => 0 ≤ x ∧ x < g.b) (fun s x => ?_) _ _⟩
  have h := sh_pos (b := decide ((penTake s 3).1 = 0)) hw
  have := pen_bd (penTake s 3).2 h.1
  unfold shE
  omega
theorem tick_row {g : Prog} {s : Stand} {r : WRow} (hg : ProgOk g) (hs : StandOk g s) (h : rowAtM g s = some r) : s.1 < g.c.l.length ∧ r = ix g.c.l s.1 ∧ r ≠ .fin ∧ RowV g.a g.b g.c.l.length r := by
  unfold rowAtM at h
  split at h
  · cases h
  · rename_i hc
    have e : ix g.c.l s.1 = r := Option.some.inj h
    simp at hc
    have h1 := hs.a0
    have h2 := hs.a1
    have hlt : s.1 < g.c.l.length := by omega
    refine ⟨hlt, e.symm, by rw [← e]; exact hc.2, ?_⟩
    rw [← e]
    exact hg.rows _ (ix_mem h1 hlt)
theorem nl1 {r : WRow} (h : r ≠ .fin) : 0 < r.nums.length := by
  cases r <;> first | exact absurd rfl h | simp [WRow.nums]
theorem nl2 {r : WRow} (h : r.isSet = true ∨ r.isAdd = true ∨ r.isJump = true) : 1 < r.nums.length := by
  cases r with
  | set p v => show 1 < 2; decide
  | add p v => show 1 < 2; decide
  | jump p v => show 1 < 2; decide
  | say p => rcases h with h | h | h <;> exact absurd h Bool.false_ne_true
  | take p => rcases h with h | h | h <;> exact absurd h Bool.false_ne_true
  | fin => rcases h with h | h | h <;> exact absurd h Bool.false_ne_true
theorem rv1 {n w m : Int} {r : WRow} (h : RowV n w m r) (hn : r ≠ .fin) : 0 ≤ r.a1 ∧ r.a1 < n := by
  cases r with
  | set p v => exact h.1
  | add p v => exact h.1
  | jump p v => exact h.1
  | say p => exact h
  | take p => exact h
  | fin => exact absurd rfl hn
theorem rv2 {n w m : Int} {r : WRow} (h : RowV n w m r) (hn : r.isAdd = true) : 0 ≤ r.a2 ∧ r.a2 < n := by
  cases r <;> first | exact h.2 | exact absurd hn Bool.false_ne_true
theorem tk_of {r : WRow} (hn : r ≠ .fin) (h0 : r.isSet = false) (h1 : r.isAdd = false) (h2 : r.isJump = false) (h3 : r.isSay = false) : r.isTake = true := by
  cases r <;> first | rfl | exact absurd rfl hn | exact absurd h0.symm Bool.false_ne_true | exact absurd h1.symm Bool.false_ne_true | exact absurd h2.symm Bool.false_ne_true | exact absurd h3.symm Bool.false_ne_true
theorem some_of {o : Option WRow} (h : o.isNone = false) : o.isSome = true := by
  cases o with
  | none => cases h
  | some r => rfl
theorem none_of {o : Option WRow} (h : o.isNone = true) : o = none := by
  cases o with
  | none => rfl
  | some r => cases h
theorem get_of {o : Option WRow} (h : o.isNone = false) : o = some (o.getD default) := by
  cases o with
  | none => cases h
  | some r => rfl
theorem tick_w {r : WRow} {letters : List Int} (h : (decide (r.word = Str.ofString "take") && decide ((letters.length : Int) = 0)) = true) : (r.isTake && decide (letters = [])) = true := by
  rw [isTake_w] at h
  obtain ⟨h1, h2⟩ := Bool.and_eq_true_iff.mp h
  have h3 := of_decide_eq_true h2
  rw [h1, decide_eq_true (List.eq_nil_of_length_eq_zero (by omega))]
  rfl
theorem tick_nw {r : WRow} {letters : List Int} (h : (decide (r.word = Str.ofString "take") && decide ((letters.length : Int) = 0)) = false) : ¬ (r.isTake && decide (letters = [])) = true := fun q => by
  rw [isTake_w] at h
  obtain ⟨h1, h2⟩ := Bool.and_eq_true_iff.mp q
  have h3 := of_decide_eq_true h2
  rw [h1, h3] at h
  exact absurd h.symm Bool.false_ne_true
theorem prog_ok {n w many : Int} {z : Pen} {takes : Bool} (hn : 1 ≤ n ∧ n ≤ 12) (hw : 2 ≤ w ∧ w ≤ 100) (hm : 1 ≤ many ∧ many ≤ 20) : ProgOk ⟨n, w, ⟨(mapX (fun st (_ : Int) => (rowM st n w many takes).1) (fun st _ => (rowM st n w many takes).2) (rng 0 many) z).1⟩⟩ ∧
    ∀ r ∈ (mapX (fun st (_ : Int) => (rowM st n w many takes).1) (fun st _ => (rowM st n w many takes).2) (rng 0 many) z).1, RowT takes r := by
  have hl : (mapX (fun st (_ : Int) => (rowM st n w many takes).1) (fun st _ => (rowM st n w many takes).2) (rng 0 many) z).1.length = many.toNat := by rw [mapX_len, len_rng]; omega
  have hr := mapX_all (e := fun st (_ : Int) => (rowM st n w many takes).1) (step := fun st _ => (rowM st n w many takes).2) (fun r => RowV n w many r ∧ RowT takes r) (fun st (_ : Int) => rowM_ok (z := st) (n := n) (w := w) (many := many) (takes := takes) (by omega) (by omega) (by omega)) (rng 0 many) z
  refine ⟨⟨hn.1, hn.2, hw.1, hw.2, by dsimp only; omega, by dsimp only; omega, fun r h => ?_⟩, fun r h => (hr r h).2⟩
  dsimp only at h ⊢
  rw [hl, show ((many.toNat : Nat) : Int) = many by omega]
  exact (hr r h).1
theorem prog_fp {n w many : Int} {z : Pen} {takes : Bool} : Anch.fp (mapX (fun st (_ : Int) => (rowM st n w many takes).1) (fun st _ => (rowM st n w many takes).2) (rng 0 many) z).2 = Anch.fp z :=
  mapX_inv (fun st => Anch.fp st = Anch.fp z) (fun s x h => by rw [row_fp]; exact h) (rng 0 many) z rfl
theorem pick2 (P : Int → Prop) {a b x : Int} (h : 0 ≤ x ∧ x < 2) (ha : P a) (hb : P b) : P (ix [a, b] x) := by
  have e : x = 0 ∨ x = 1 := by omega
  rcases e with e | e <;> subst e
  · exact ha
  · exact hb
theorem pick3 (P : Int → Prop) {a b c x : Int} (h : 0 ≤ x ∧ x < 3) (ha : P a) (hb : P b) (hc : P c) : P (ix [a, b, c] x) := by
  have e : x = 0 ∨ x = 1 ∨ x = 2 := by omega
  rcases e with e | e | e <;> subst e
  · exact ha
  · exact hb
  · exact hc
theorem pick5 (P : Int → Prop) {a b c d f x : Int} (h : 0 ≤ x ∧ x < 5) (ha : P a) (hb : P b) (hc : P c) (hd : P d) (hf : P f) : P (ix [a, b, c, d, f] x) := by
  have e : x = 0 ∨ x = 1 ∨ x = 2 ∨ x = 3 ∨ x = 4 := by omega
  rcases e with e | e | e | e | e <;> subst e
  · exact ha
  · exact hb
  · exact hc
  · exact hd
  · exact hf
theorem dr_n (z : Pen) : 1 ≤ 1 + (penTake (penTake z 2).2 (ix [3, 12] (penTake z 2).1)).1 ∧ 1 + (penTake (penTake z 2).2 (ix [3, 12] (penTake z 2).1)).1 ≤ 12 := by
  have h := pick2 (fun v => 0 < v ∧ v ≤ 12) (a := 3) (b := 12) (pen_bd z (m := 2) (by decide)) (by decide) (by decide)
  have := pen_bd (penTake z 2).2 h.1
  omega
theorem dr_m (z : Pen) : 1 ≤ 1 + (penTake (penTake z 3).2 (ix [6, 12, 20] (penTake z 3).1)).1 ∧ 1 + (penTake (penTake z 3).2 (ix [6, 12, 20] (penTake z 3).1)).1 ≤ 20 := by
  have h := pick3 (fun v => 0 < v ∧ v ≤ 20) (a := 6) (b := 12) (c := 20) (pen_bd z (m := 3) (by decide)) (by decide) (by decide) (by decide)
  have := pen_bd (penTake z 3).2 h.1
  omega
theorem mul01 {x : Int} {b : Bool} (h : 0 ≤ x) : 0 ≤ x * (if b = true then 1 else 0) ∧ x * (if b = true then 1 else 0) ≤ x := by
  cases b
  · rw [if_neg (by decide), Int.mul_zero]; omega
  · rw [if_pos rfl, Int.mul_one]; omega
section
variable {r : WRow} {w : Int} {sheets : Tp Int} {letters : List Int}
end
end GL
namespace L2
open PySem PySem.Spec PyProof.Rows
section
variable {X : Cx}
def gFld (K : PySem.W.Frag) (to : TE) (f : Str) : TG := fun v σ H Q => to σ H fun x H1 => ∃ a C dx fs, x = .ref a ∧ H1 a = some (.ins C dx fs) ∧ Cls K C ∧ NoAttr K C f ∧ fs.length < 1000 ∧ Q σ (upd H1 a (.ins C dx (putF f v fs)))
theorem pg_fld {o : Expr} {f : Str} {pos : Pos} {to : TE} (ho : PE X o to) : PG X (.Attribute o f pos) (gFld X.K to f) := by
  refine ⟨fun pins s σ H v u Q I r h => ?_⟩
  rw [arm_assign_Attribute]
  refine wpAny_bind (wpAny_holding (thn (ho.run pins s σ H _ I h) fun ov s1 ⟨x, H1, I1, r1, a, C, dx, fs, ex, ea, c, n, l, q⟩ => ?_))
  subst ex
  obtain rfl : ov = Value.ref a := r1
  refine wpAny_bind (wpAny_standAt (wpAny_bind (wpAny_holding (setattr_ok I1 ea c n l r fun s3 I3 => ?_))))
  exact wpAny_release ⟨σ, _, I3, q⟩
end
end L2
namespace GL
open PySem PySem.Spec PyProof.Rows L2
def fIx (f : Str) : List Str → Nat
  | [] => 0
  | k :: ks => if k = f then 0 else fIx f ks + 1
theorem look_zip {f : Str} : ∀ {ks : List Str} {vs : List V} {n : Nat}, fIx f ks = n → n < ks.length → (ks.zip vs).lookup f = vs[n]?
  | [], _, _, _, h => absurd h (Nat.not_lt_zero _)
  | _ :: _, [], _, _, _ => rfl
  | k :: ks, v :: vs, n, e, h => by
    unfold fIx at e
    rw [List.zip_cons_cons]
    by_cases c : k = f
    · rw [if_pos c] at e
      subst e c
      simp [List.lookup]
    · rw [if_neg c] at e
      subst e
      have hb : (f == k) = false := beq_eq_false_iff_ne.mpr fun z => c z.symm
      simp only [List.lookup, hb]
      rw [look_zip (ks := ks) (vs := vs) rfl (by simpa using h)]
      rfl
theorem look_none {f : Str} : ∀ {ks : List Str} {vs : List V}, f ∉ ks → (ks.zip vs).lookup f = none
  | [], _, _ => rfl
  | _ :: _, [], _ => rfl
  | k :: ks, v :: vs, h => by
    have hb : (f == k) = false := beq_eq_false_iff_ne.mpr fun z => h (by rw [z]; exact List.mem_cons_self)
    rw [List.zip_cons_cons]
    simp only [List.lookup, hb]
    exact look_none fun z => h (List.mem_cons_of_mem _ z)
theorem put_zip {f : Str} {y : V} : ∀ {ks : List Str} {vs : List V} {n : Nat}, fIx f ks = n → n < ks.length → ks.length = vs.length → putF f y (ks.zip vs) = ks.zip (vs.set n y)
  | [], _, _, _, h, _ => absurd h (Nat.not_lt_zero _)
  | _ :: _, [], _, _, _, h => by cases h
  | k :: ks, v :: vs, n, e, h, hl => by
    unfold fIx at e
    rw [List.zip_cons_cons]
    unfold putF
    by_cases c : k = f
    · rw [if_pos c] at e ⊢
      subst e
      rfl
    · rw [if_neg c] at e ⊢
      subst e
      rw [put_zip (ks := ks) (vs := vs) rfl (by simpa using h) (by simpa using hl)]
      rfl
theorem put_snoc {f : Str} {y : V} : ∀ {ks : List Str} {vs : List V}, f ∉ ks → ks.length = vs.length → putF f y (ks.zip vs) = (ks ++ [f]).zip (vs ++ [y])
  | [], [], _, _ => rfl
  | [], _ :: _, _, h => by cases h
  | _ :: _, [], _, h => by cases h
  | k :: ks, v :: vs, h, hl => by
    rw [List.zip_cons_cons]
    unfold putF
    rw [if_neg fun z => h (by rw [z]; exact List.mem_cons_self), put_snoc (fun z => h (List.mem_cons_of_mem _ z)) (by simpa using hl)]
    rfl
def oV : Option Int → V
  | none => .non
  | some x => .int x
theorem oV_rep {K : Fg} {S : Hp} {v : V} {x : Option Int} (h : Py.rep K S v x) : v = oV x := by
  cases x with
  | none => exact h
  | some y => exact h
theorem rep_oV {K : Fg} {S : Hp} (x : Option Int) : Py.rep K S (oV x) x := by
  cases x with
  | none => exact rfl
  | some y => exact rfl
structure Car (C : Addr) where
  a : Addr
  w : Addr
  s : Addr
  f : Addr
  b : Addr
  g : Prog
  st : Stand
  houses : Int
  place : Int
  wait : List Int
  said : List Int
  done : Int
  goal : Option Int
  still : Bool
  fresh : Dct Bool
  made : Int
  absent : Dct Bool
def carK : List Str := ["program", "stand", "houses", "place", "waiting", "spoken", "done", "goal", "is_still", "fresh", "made", "absent"]
def carV {C : Addr} (z : Car C) (pv sv : V) : List V := [pv, sv, .int z.houses, .int z.place, .ref z.w, .ref z.s, .int z.done, oV z.goal, .bl z.still, .ref z.f, .int z.made, .ref z.b]
structure CarAt {C : Addr} (K : Fg) (S H : Hp) (z : Car C) (dx : Addr) (pv sv : V) (kf kb : List (Key × V)) : Prop where
  cl : Cls K C
  na : ∀ k ∈ carK, NoAttr K C k
  ob : H z.a = some (.ins C dx (carK.zip (carV z pv sv)))
  rg : Py.rep K S pv z.g
  rs : Py.rep K S sv z.st
  hw : H z.w = some (.lst (z.wait.map V.int))
  hs : H z.s = some (.lst (z.said.map V.int))
  hf : H z.f = some (.dK kf)
  rf : RepD K S kf z.fresh.l
  hb : H z.b = some (.dK kb)
  rb : RepD K S kb z.absent.l
  d1 : z.w ≠ z.s
  d2 : z.f ≠ z.b
def Car.fp {C : Addr} (z : Car C) : List Addr := [z.a, z.w, z.s, z.f, z.b]
section
variable {C : Addr} {K : Fg} {S S' H H' : Hp} {z z' : Car C} {dx : Addr} {pv sv : V} {kf kb : List (Key × V)}
theorem CarAt.mono (c : CarAt K S H z dx pv sv kf kb) (e : Same S S') (h : ∀ p ∈ z.fp, H' p = H p) : CarAt K S' H' z dx pv sv kf kb :=
  ⟨c.cl, c.na, by rw [h _ (by simp [Car.fp])]; exact c.ob, Py.mono e c.rg, Py.mono e c.rs, by rw [h _ (by simp [Car.fp])]; exact c.hw, by rw [h _ (by simp [Car.fp])]; exact c.hs, by rw [h _ (by simp [Car.fp])]; exact c.hf, c.rf.mono e, by rw [h _ (by simp [Car.fp])]; exact c.hb, c.rb.mono e, c.d1, c.d2⟩
instance : Own (Car C) := ⟨fun K S H v ps z => v = .ref z.a ∧ ps = z.fp ∧ ∃ dx pv sv kf kb, CarAt K S H z dx pv sv kf kb, fun {K S S' H H' v ps x} e a ⟨h1, h2, dx, pv, sv, kf, kb, c⟩ => ⟨h1, h2, dx, pv, sv, kf, kb, c.mono e (by rw [← h2]; exact a)⟩⟩
instance : Anch (Car C) := ⟨fun z => (.ref z.a, z.fp), fun ⟨h1, h2, _⟩ => by rw [h1, h2]⟩
theorem CarAt.ne_w (c : CarAt K S H z dx pv sv kf kb) : z.w ≠ z.a := fun e => by have h := c.hw; rw [e, c.ob] at h; cases h
theorem CarAt.ne_s (c : CarAt K S H z dx pv sv kf kb) : z.s ≠ z.a := fun e => by have h := c.hs; rw [e, c.ob] at h; cases h
theorem CarAt.ne_f (c : CarAt K S H z dx pv sv kf kb) : z.f ≠ z.a := fun e => by have h := c.hf; rw [e, c.ob] at h; cases h
theorem CarAt.ne_b (c : CarAt K S H z dx pv sv kf kb) : z.b ≠ z.a := fun e => by have h := c.hb; rw [e, c.ob] at h; cases h
theorem CarAt.ne_wf (c : CarAt K S H z dx pv sv kf kb) : z.w ≠ z.f := fun e => by have h := c.hw; rw [e, c.hf] at h; cases h
theorem CarAt.ne_wb (c : CarAt K S H z dx pv sv kf kb) : z.w ≠ z.b := fun e => by have h := c.hw; rw [e, c.hb] at h; cases h
theorem CarAt.ne_sf (c : CarAt K S H z dx pv sv kf kb) : z.s ≠ z.f := fun e => by have h := c.hs; rw [e, c.hf] at h; cases h
theorem CarAt.ne_sb (c : CarAt K S H z dx pv sv kf kb) : z.s ≠ z.b := fun e => by have h := c.hs; rw [e, c.hb] at h; cases h
theorem CarAt.set {pv' sv' : V} {f : Str} {y : V} {n : Nat} (c : CarAt K S H z dx pv sv kf kb) (hn : fIx f carK = n) (hl : n < 12) (e : (carV z pv sv).set n y = carV z' pv' sv') (ha : z'.a = z.a) (h1 : z'.w = z.w) (h2 : z'.s = z.s) (h3 : z'.f = z.f) (h4 : z'.b = z.b)
    (w1 : z'.wait = z.wait) (w2 : z'.said = z.said) (w3 : z'.fresh = z.fresh) (w4 : z'.absent = z.absent) (rg : Py.rep K S pv' z'.g) (rs : Py.rep K S sv' z'.st) : CarAt K S (upd H z.a (.ins C dx (putF f y (carK.zip (carV z pv sv))))) z' dx pv' sv' kf kb := by
  refine ⟨c.cl, c.na, ?_, rg, rs, ?_, ?_, ?_, by rw [w3]; exact c.rf, ?_, by rw [w4]; exact c.rb, by rw [h1, h2]; exact c.d1, by rw [h3, h4]; exact c.d2⟩
  · rw [ha, upd_same, put_zip hn hl rfl, e]
  · rw [h1, w1, upd_ne c.ne_w]; exact c.hw
  · rw [h2, w2, upd_ne c.ne_s]; exact c.hs
  · rw [h3, upd_ne c.ne_f]; exact c.hf
  · rw [h4, upd_ne c.ne_b]; exact c.hb
end
section
variable {C : Addr} {K : Fg} {B S0 S1 S S' D : Hp} {σ : L2.St} {H H' : Hp} {F : Nat → List Addr} {G G' G1 G2 G3 G4 G5 : List Sl} {ta tb tc td te : TE} {i j l : Nat} {t u : TS} {E : Ends} {z : Car C}
theorem car_at (k : Kn K B S0 S σ H F G) (hi : G[i]? = some (.ow z)) : σ[i]? = some (some (.ref z.a)) ∧ F i = z.fp ∧ ∃ dx pv sv kf kb, CarAt K S H z dx pv sv kf kb := by
  obtain ⟨v, h1, h2, h3, h4⟩ := k.ow hi
  exact ⟨by rw [h1, h2], h3, h4⟩
theorem ev_fld {α : Type} [Py α] {x : α} {f : Str} (n : Nat) (hn : fIx f carK = n) (hl : n < 12) (hi : G[i]? = some (.ow z)) (h : ∀ {K : Fg} {S : Hp} {pv sv : V}, Py.rep K S pv z.g → Py.rep K S sv z.st → ∃ v, (carV z pv sv)[n]? = some v ∧ Py.rep K S v x) : EvX K (tFld K (tVar i) f) G x G := fun B S0 S σ H F k Q q => by
  obtain ⟨h1, h2, dx, pv, sv, kf, kb, c⟩ := car_at k hi
  obtain ⟨v, h3, h4⟩ := h c.rg c.rs
  have hf : f ∈ carK := by
    have : ∀ ks : List Str, fIx f ks < ks.length → f ∈ ks := fun ks => by
      induction ks with
      | nil => intro h; exact absurd h (Nat.not_lt_zero _)
      | cons k ks ih =>
        intro h
        unfold fIx at h
        by_cases c : k = f
        · rw [c]; exact List.mem_cons_self
        · rw [if_neg c] at h
          exact List.mem_cons_of_mem _ (ih (by simpa using h))
    exact this carK (by rw [hn]; exact hl)
  exact ⟨.ref z.a, h1, z.a, C, dx, _, v, rfl, c.ob, c.cl, c.na f hf, by rw [look_zip hn hl]; exact h3, q v S H (Same.refl _) k h4⟩
theorem ev_program (hi : G[i]? = some (.ow z)) : EvX K (tFld K (tVar i) "program") G z.g G := ev_fld 0 (by decide +kernel) (by decide) hi fun a b => ⟨_, rfl, a⟩
theorem ev_stand (hi : G[i]? = some (.ow z)) : EvX K (tFld K (tVar i) "stand") G z.st G := ev_fld 1 (by decide +kernel) (by decide) hi fun a b => ⟨_, rfl, b⟩
theorem ev_houses (hi : G[i]? = some (.ow z)) : EvX K (tFld K (tVar i) "houses") G z.houses G := ev_fld 2 (by decide +kernel) (by decide) hi fun a b => ⟨_, rfl, rfl⟩
theorem ev_place (hi : G[i]? = some (.ow z)) : EvX K (tFld K (tVar i) "place") G z.place G := ev_fld 3 (by decide +kernel) (by decide) hi fun a b => ⟨_, rfl, rfl⟩
theorem ev_done (hi : G[i]? = some (.ow z)) : EvX K (tFld K (tVar i) "done") G z.done G := ev_fld 6 (by decide +kernel) (by decide) hi fun a b => ⟨_, rfl, rfl⟩
theorem ev_goal (hi : G[i]? = some (.ow z)) : EvX K (tFld K (tVar i) "goal") G z.goal G := ev_fld 7 (by decide +kernel) (by decide) hi fun a b => ⟨_, rfl, rep_oV _⟩
theorem ev_is_still (hi : G[i]? = some (.ow z)) : EvX K (tFld K (tVar i) "is_still") G z.still G := ev_fld 8 (by decide +kernel) (by decide) hi fun a b => ⟨_, rfl, rfl⟩
theorem ev_made (hi : G[i]? = some (.ow z)) : EvX K (tFld K (tVar i) "made") G z.made G := ev_fld 10 (by decide +kernel) (by decide) hi fun a b => ⟨_, rfl, rfl⟩
end
end GL
namespace GL
open PySem PySem.Spec PyProof.Rows L2
inductive XC
  | tooMany | noHouse | noLetter | noStep | noRow | noText | base
  deriving DecidableEq
def xY (a0 a1 a2 a3 a4 a5 a6 : Addr) : XC → Addr
  | .tooMany => a0
  | .noHouse => a1
  | .noLetter => a2
  | .noStep => a3
  | .noRow => a4
  | .noText => a5
  | .base => a6
structure XCls (K : Fg) (mg : Str → Option Value) (nm : Str) (C : Addr) : Prop where
  g : mg nm = some (.ref C)
  x : PySem.W.excIn K C [.type "ValueError", .type "Exception", .type "BaseException", .type "object"] "ValueError.__new__" = true
  kp : PySem.W.keepIn K (.ref C) = true
  ty : PySem.W.typeIn K (.ref C) = some (.type "type")
  hg : PySem.W.findIn K (.ref C) "__getattribute__" = some (some (.builtin "BaseException.__getattribute__"))
  hk : PySem.W.findIn K (.ref C) "__getattr__" = some none
  hs : PySem.W.subIn K (.ref C) (.type "BaseException") = some true
  hd : PySem.W.hasDictIn K C = true
  ha : PySem.W.findIn K (.ref C) "__class__" = some (some (.builtin "object.__class__"))
  hn : PySem.W.specialIn K (.builtin "object.__class__") "__get__" = some (some (.builtin "getset_descriptor.__get__"))
  ht : PySem.W.takesIn K (.builtin "object.__class__") = some true
  hm : PySem.W.mroIn K C (.type "object") = some true
structure XTst (K : Fg) (mg : Str → Option Value) (nm : Str) (C : Addr) : Prop where
  g : mg nm = some (.ref C)
  ty : PySem.W.typeIn K (.ref C) = some (.type "type")
  hs : PySem.W.subIn K (.ref C) (.type "BaseException") = some true
  hd : PySem.W.hasDictIn K C = true
  self : PySem.W.subIn K (.ref C) (.ref C) = some true
theorem XCls.c {K : Fg} {mg : Str → Option Value} {nm : Str} {C : Addr} (t : XCls K mg nm C) : ExcC K C := ⟨t.hg, t.hk, t.hs, t.hd, t.ha, t.hn, t.ht, t.hm⟩
theorem XTst.met {K : Fg} {mg : Str → Option Value} {nm : Str} {C : Addr} {cls : Value} (t : XTst K mg nm C) (h : PySem.W.subIn K cls (.ref C) = some true) : PySem.W.exmOne K cls (.ref C) = some true := PySem.W.exm_ref t.hs t.hd t.ty h
theorem XTst.names {X : Cx} {nm : Str} {C : Addr} (t : XTst X.K X.mg nm C) (hg : Gl X nm) (hd : (nm == ("__debug__" : Str)) = false := by decide) : Names X nm (.ref C) := ⟨hg, hd, .inl t.g⟩
structure Exc (Y : XC → Addr) where
  x : XC
section
variable {Y : XC → Addr}
instance : Py (Exc Y) := ⟨fun K S v e => ∃ p, v = .ref p ∧ S p = some (excH (.ref (Y e.x)) none p), fun s ⟨p, h1, h2⟩ => ⟨p, h1, s _ _ h2⟩⟩
end
def rIsX (K : Fg) : List V → Hp → VK → Prop := fun xs H Q => ∃ (a D : Addr) (c : V) (cv : Value) (b : Bool), xs = [.ref a, c] ∧ ExcC K D ∧ H a = some (excH (.ref D) none a) ∧ (∀ u, RelV c u → u = cv) ∧ PySem.W.kitOne K (.ref D) cv = some b ∧ Q (.bl b) H
def rIsXs (K : Fg) : List V → Hp → VK → Prop := fun xs H Q => ∃ (a D tp : Addr) (cs : List Addr) (b : Bool), xs = [.ref a, .ref tp] ∧ ExcC K D ∧ H a = some (excH (.ref D) none a) ∧ H tp = some (.tup (cs.map V.ref)) ∧ PySem.W.kitAny K (.ref D) (cs.map Value.ref) = some b ∧ Q (.bl b) H
section
variable {K : Fg} {B S0 S1 S S' : Hp} {σ : L2.St} {H H' : Hp} {F : Nat → List Addr} {G G' G1 G2 : List Sl} {ta te : TE} {t : TA} {u : TS} {D : Ends} {i j : Nat} {Y : XC → Addr} {α β : Type} {mg : Str → Option Value} {nm : Str}
def spX [PyA α] [Py β] (K : Fg) (Y : XC → Addr) (f : α → XC ⊕ β) (pre : α → Prop) : Sp := fun vs H Q E => ∃ (S : Hp) (a : α), Same S H ∧ PyA.rep K S vs a ∧ pre a ∧
  (∀ y, f a = .inr y → ∀ v S' H', Grow S H S' H' → Py.rep K S' v y → Q v H') ∧ ∀ e, f a = .inl e → ∀ S' H', Grow S H S' H' → E (.ref (Y e)) none H'
variable {W : WX}
def tRaiseX (C : Addr) (W : WX) : TS := fun _ σ H => W (.ref C) none σ H
theorem q_raise {C : Addr} (h : At K B S0 (W (.ref C) none) G) : At K B S0 (tSeq (tRaiseX C W) u D) G := h
theorem at_keep0 {e : XC} {c : Value} {ts : TS} (hm : PySem.W.exmOne K (.ref (Y e)) c = some true) (h : At K B S0 (ts D) G) : At K B S0 (wKeep0 K c ts D (.ref (Y e)) none) G := fun S σ H F kn =>
  ⟨hm, fun a na => h _ _ _ F (kn.new na)⟩
end
structure CalX (P : Program) (w : World) (K : Fg) (mg : Str → Option Value) (base : Heap) (k : Nat) (x : Str) (ps : List Str) (sp : Sp) : Prop where
  ex : ∃ (f : Addr) (fd : FuncData), mg x = some (.ref f) ∧ FnOk P w K mg base (L2.CX P w) k f fd ps sp ∧ PySem.W.keepIn K (.ref f) = true ∧ Binds K fd ps []
theorem ps_raiseX {X : Cx} {W : WX} {nm m : Str} {j : Nat} {p p2 pos pos2 : Pos} {C : Addr} (x : XCls X.K X.mg nm C) (hc : X.calm = true) (tk : Takes X W) (hg : Gl X nm) (hdb : (nm == ("__debug__" : Str)) = false := by decide) :
    PS X (.Raise (some (.Call (.Name nm p) [.Constant (.str m) j p2] [] pos)) none pos2) (tRaiseX C W) := ps_raise hc tk (pmk_own PySem.F.excBase_ValueError x.x x.g x.kp (raises_own x.hs x.ty) hg hdb)
section
variable {P : Program} {w : World} {K : Fg} {mg : Str → Option Value} {base : Heap} {α β : Type} [Sls α] [Py β] {Y : XC → Addr}
end
end GL
namespace GL
open PySem PySem.Spec PyProof.Rows L2
structure Lnt (α : Type) where
  B : Hp
  S1 : Hp
  SL : Hp
  x : List α
instance {α : Type} [Py α] : Py (Lnt α) := ⟨fun K S v y => ∃ q vs, v = .ref q ∧ y.SL = upd y.S1 q (.lst vs) ∧ y.S1 q = none ∧ y.B q = none ∧ RepL K y.S1 vs y.x ∧ Same y.SL S, fun e ⟨q, vs, h1, h2, h3, h4, h5, h6⟩ => ⟨q, vs, h1, h2, h3, h4, h5, h6.trans e⟩⟩
section
variable {K : Fg} {B S0 S1 S S' SL D : Hp} {σ : L2.St} {H H' : Hp} {F : Nat → List Addr} {G G' G1 G2 G3 : List Sl} {ta tb tc te : TE} {i j : Nat} {t u : TS} {E : Ends}
inductive ThX (S : Hp) : List Sl → List Sl → Prop
  | n : ThX S [] []
  | k {α : Type} [Py α] {x : α} {S' : Hp} {G G' : List Sl} (h : Same S' S) : ThX S G G' → ThX S (.im (At1.mk S' x) :: G) (.im (At1.mk S' x) :: G')
  | l {α : Type} [Py α] {x : List α} {B S' : Hp} {G G' : List Sl} : ThX S G G' → ThX S (.im (Lnt.mk B S' S x) :: G) (.im (Lnt.mk B S' S x) :: G')
  | o {α : Type} [Own α] [OwnI α] {x : α} {G G' : List Sl} : ThX S G G' → ThX S (.ow x :: G) (.ow x :: G')
  | d {s : Sl} {G G' : List Sl} : ThX S G G' → ThX S (.no :: G) (s :: G')
theorem ThX.len {G G' : List Sl} (h : ThX S G G') : G.length = G'.length := by
  induction h with
  | n => rfl
  | k _ _ ih => rw [List.length_cons, List.length_cons, ih]
  | l _ ih => rw [List.length_cons, List.length_cons, ih]
  | o _ ih => rw [List.length_cons, List.length_cons, ih]
  | d _ ih => rw [List.length_cons, List.length_cons, ih]
theorem ThX.get {G G' : List Sl} (t : ThX S G G') : ∀ (i : Nat) (s : Sl), G[i]? = some s → ∃ s', G'[i]? = some s' ∧ ∀ (K : Fg) (S2 H H' : Hp) (sv : Option (Option V)) (ps : List Addr), (∀ p ∈ ps, H' p = H p) → SlOk K S2 H sv ps s' → SlOk K S H' sv ps s := by
  induction t with
  | n => intro i s e; simp at e
  | k h t ih =>
    intro i s e
    cases i with
    | zero =>
      simp only [List.getElem?_cons_zero, Option.some.injEq] at e
      subst e
      exact ⟨_, rfl, fun K S2 H H' sv ps hH ⟨v, h1, h2, h3⟩ => ⟨v, h1, h2, h⟩⟩
    | succ i => simpa using ih i s (by simpa using e)
  | l t ih =>
    intro i s e
    cases i with
    | zero =>
      simp only [List.getElem?_cons_zero, Option.some.injEq] at e
      subst e
      exact ⟨_, rfl, fun K S2 H H' sv ps hH ⟨v, h1, q, vs, a1, a2, a3, a4, a5, a6⟩ => ⟨v, h1, q, vs, a1, a2, a3, a4, a5, Same.refl _⟩⟩
    | succ i => simpa using ih i s (by simpa using e)
  | o t ih =>
    intro i s e
    cases i with
    | zero =>
      simp only [List.getElem?_cons_zero, Option.some.injEq] at e
      subst e
      exact ⟨_, rfl, fun K S2 H H' sv ps hH ⟨v, h1, h2⟩ => ⟨v, h1, Own.mono (Same.refl _) hH (OwnI.go h2)⟩⟩
    | succ i => simpa using ih i s (by simpa using e)
  | d t ih =>
    intro i s e
    cases i with
    | zero =>
      simp only [List.getElem?_cons_zero, Option.some.injEq] at e
      subst e
      exact ⟨_, rfl, fun K S2 H H' sv ps hH _ => True.intro⟩
    | succ i => simpa using ih i s (by simpa using e)
inductive Kp (S : Hp) : Sl → Sl → Prop
  | k {α : Type} [Py α] {x : α} : Kp S (.im (At1.mk S x)) (.im (At1.mk S x))
  | o {α : Type} [Own α] [OwnI α] {x : α} : Kp S (.ow x) (.ow x)
  | d {s : Sl} : Kp S .no s
theorem Kp.ok {s s' : Sl} {S2 : Hp} {sv : Option (Option V)} {ps : List Addr} (h : Kp S s s') (q : SlOk K S2 H sv ps s') : SlOk K S H sv ps s := by
  cases h with
  | k =>
    obtain ⟨v, h1, h2, h3⟩ := q
    exact ⟨v, h1, h2, Same.refl _⟩
  | o =>
    obtain ⟨v, h1, h2⟩ := q
    exact ⟨v, h1, OwnI.go h2⟩
  | d => exact True.intro
inductive Kps (S : Hp) : List Sl → List Sl → Prop
  | n : Kps S [] []
  | c {s s' : Sl} {G G' : List Sl} : Kp S s s' → Kps S G G' → Kps S (s :: G) (s' :: G')
theorem Kps.len {G G' : List Sl} (h : Kps S G G') : G.length = G'.length := by
  induction h with
  | n => rfl
  | c _ _ ih => rw [List.length_cons, List.length_cons, ih]
theorem Kps.get {G G' : List Sl} (t : Kps S G G') : ∀ (i : Nat) (s : Sl), G[i]? = some s → ∃ s', G'[i]? = some s' ∧ Kp S s s' := by
  induction t with
  | n => intro i s e; simp at e
  | c h t ih =>
    intro i s e
    cases i with
    | zero =>
      simp only [List.getElem?_cons_zero, Option.some.injEq] at e
      subst e
      exact ⟨_, rfl, h⟩
    | succ i => simpa using ih i s (by simpa using e)
inductive LeU : List Sl → List Sl → Prop
  | n : LeU [] []
  | k {s : Sl} {G G' : List Sl} : LeU G G' → LeU (s :: G) (s :: G')
  | d {s : Sl} {G G' : List Sl} : LeU G G' → LeU (.no :: G) (s :: G')
  | t {α : Type} [Py α] {x : α} {S : Hp} {G G' : List Sl} : LeU G G' → LeU (.im x :: G) (.im (At1.mk S x) :: G')
theorem LeU.len {G G' : List Sl} (h : LeU G G') : G.length = G'.length := by
  induction h with
  | n => rfl
  | k _ ih => rw [List.length_cons, List.length_cons, ih]
  | d _ ih => rw [List.length_cons, List.length_cons, ih]
  | t _ ih => rw [List.length_cons, List.length_cons, ih]
theorem LeU.get {G G' : List Sl} (t : LeU G G') : ∀ (i : Nat) (s : Sl), G[i]? = some s → ∃ s', G'[i]? = some s' ∧ ∀ (K : Fg) (S H : Hp) (sv : Option (Option V)) (ps : List Addr), SlOk K S H sv ps s' → SlOk K S H sv ps s := by
  induction t with
  | n => intro i s e; simp at e
  | k t ih =>
    intro i s e
    cases i with
    | zero => exact ⟨s, e, fun _ _ _ _ _ h => h⟩
    | succ i => simpa using ih i s (by simpa using e)
  | d t ih =>
    intro i s e
    cases i with
    | zero =>
      simp only [List.getElem?_cons_zero, Option.some.injEq] at e
      subst e
      exact ⟨_, rfl, fun _ _ _ _ _ _ => True.intro⟩
    | succ i => simpa using ih i s (by simpa using e)
  | t t ih =>
    intro i s e
    cases i with
    | zero =>
      simp only [List.getElem?_cons_zero, Option.some.injEq] at e
      subst e
      exact ⟨_, rfl, fun _ _ _ _ _ ⟨v, h1, h2, h3⟩ => ⟨v, h1, Py.mono h3 h2⟩⟩
    | succ i => simpa using ih i s (by simpa using e)
end
end GL
namespace L2
open PySem PySem.Spec PyProof.Rows
section
variable {X : Cx}
theorem pe_fldK {K : PySem.W.Frag} {e : Expr} {f : Str} {pos : Pos} {ta : TE} (hK : X.K = K) (he : PE X e ta) (hb : attributeBase e f X.env (eval e X.env) = eval e X.env) : PE X (.Attribute e f pos) (tFld K ta f) := by
  subst hK
  exact pe_fld he hb
def rNeE : R2 := fun x y H Q => ∃ a b ks, x = .ref a ∧ y = .ref b ∧ H a = some (.dK ks) ∧ H b = some (.dK []) ∧ Q (.bl (!ks.isEmpty)) H
theorem op_neE (hu : X.A.units < cLine) : OpR X (compareOp .NotEq) rNeE := by
  intro pins s σ H x y v u Q I rx ry h
  obtain ⟨a, b, ks, rfl, rfl, ea, eb, q⟩ := h
  obtain rfl : v = Value.ref a := rx
  obtain rfl : u = Value.ref b := ry
  obtain ⟨_, ya, va, ra, da⟩ := (show ObjOk X.prog X.w H s.heap a (.dK ks) from I.hok a _ ea)
  obtain ⟨_, yb, vb, rb, db⟩ := (show ObjOk X.prog X.w H s.heap b (.dK []) from I.hok b _ eb)
  have la : va.length = ks.length := ra.length.symm
  have lb : vb.length = 0 := rb.length.symm
  refine PySem.W.keq_ne (knd := mixKind X.prog X.w) (r := true) ya yb da db hu (fun hl => ?_) (fin_bl I q ?_)
  · cases va with
    | nil => exact .nil
    | cons p va => rw [lb] at hl; cases hl
  · cases ks with
    | nil => rw [List.length_nil] at la; rw [la, lb]; rfl
    | cons p ks => rw [la, lb]; rfl
end
end L2
namespace GL
open PySem PySem.Spec PyProof.Rows L2
theorem fld_mem {f : Str} : ∀ ks : List Str, fIx f ks < ks.length → f ∈ ks := fun ks => by
  induction ks with
  | nil => intro h; exact absurd h (Nat.not_lt_zero _)
  | cons k ks ih =>
    intro h
    unfold fIx at h
    by_cases c : k = f
    · rw [c]; exact List.mem_cons_self
    · rw [if_neg c] at h
      exact List.mem_cons_of_mem _ (ih (by simpa using h))
section
variable {C : Addr} {K : Fg} {S S' H H' : Hp} {z z' : Car C} {dx : Addr} {pv sv : V} {kf kb : List (Key × V)}
theorem CarAt.some (c : CarAt K S H z dx pv sv kf kb) {q : Addr} (h : q ∈ z.fp) : ∃ o, H q = some o := by
  simp only [Car.fp, List.mem_cons, List.mem_nil_iff, or_false] at h
  rcases h with e | e | e | e | e <;> rw [e]
  · exact ⟨_, c.ob⟩
  · exact ⟨_, c.hw⟩
  · exact ⟨_, c.hs⟩
  · exact ⟨_, c.hf⟩
  · exact ⟨_, c.hb⟩
theorem CarAt.setW {l : List Int} (c : CarAt K S H z dx pv sv kf kb) : CarAt K S (upd H z.w (.lst (l.map V.int))) ({ z with wait := l } : Car C) dx pv sv kf kb :=
  ⟨c.cl, c.na, by rw [upd_ne c.ne_w.symm]; exact c.ob, c.rg, c.rs, upd_same, by show upd H z.w _ z.s = _; rw [upd_ne c.d1.symm]; exact c.hs, by show upd H z.w _ z.f = _; rw [upd_ne c.ne_wf.symm]; exact c.hf, c.rf, by show upd H z.w _ z.b = _; rw [upd_ne c.ne_wb.symm]; exact c.hb, c.rb, c.d1, c.d2⟩
theorem CarAt.setS {l : List Int} (c : CarAt K S H z dx pv sv kf kb) : CarAt K S (upd H z.s (.lst (l.map V.int))) ({ z with said := l } : Car C) dx pv sv kf kb :=
  ⟨c.cl, c.na, by rw [upd_ne c.ne_s.symm]; exact c.ob, c.rg, c.rs, by show upd H z.s _ z.w = _; rw [upd_ne c.d1]; exact c.hw, upd_same, by show upd H z.s _ z.f = _; rw [upd_ne c.ne_sf.symm]; exact c.hf, c.rf, by show upd H z.s _ z.b = _; rw [upd_ne c.ne_sb.symm]; exact c.hb, c.rb, c.d1, c.d2⟩
theorem CarAt.setF {d : Dct Bool} {kf' : List (Key × V)} (c : CarAt K S H z dx pv sv kf kb) (r : RepD K S kf' d.l) : CarAt K S (upd H z.f (.dK kf')) ({ z with fresh := d } : Car C) dx pv sv kf' kb :=
  ⟨c.cl, c.na, by rw [upd_ne c.ne_f.symm]; exact c.ob, c.rg, c.rs, by show upd H z.f _ z.w = _; rw [upd_ne c.ne_wf]; exact c.hw, by show upd H z.f _ z.s = _; rw [upd_ne c.ne_sf]; exact c.hs, upd_same, r, by show upd H z.f _ z.b = _; rw [upd_ne c.d2.symm]; exact c.hb, c.rb, c.d1, c.d2⟩
theorem CarAt.setB {d : Dct Bool} {kb' : List (Key × V)} (c : CarAt K S H z dx pv sv kf kb) (r : RepD K S kb' d.l) : CarAt K S (upd H z.b (.dK kb')) ({ z with absent := d } : Car C) dx pv sv kf kb' :=
  ⟨c.cl, c.na, by rw [upd_ne c.ne_b.symm]; exact c.ob, c.rg, c.rs, by show upd H z.b _ z.w = _; rw [upd_ne c.ne_wb]; exact c.hw, by show upd H z.b _ z.s = _; rw [upd_ne c.ne_sb]; exact c.hs, by show upd H z.b _ z.f = _; rw [upd_ne c.d2]; exact c.hf, c.rf, upd_same, r, c.d1, c.d2⟩
end
section
variable {C : Addr} {K : Fg} {B S0 S1 S S' D : Hp} {σ : L2.St} {H H' : Hp} {F : Nat → List Addr} {G G' G1 G2 G3 G4 G5 : List Sl} {ta tb tc td te : TE} {i j l : Nat} {t u : TS} {E : Ends} {z z' : Car C} {dx : Addr} {pv sv : V} {kf kb : List (Key × V)}
theorem car_upd (k : Kn K B S0 S σ H F G) (hi : G[i]? = some (.ow z)) (c : CarAt K S H' z' dx pv sv kf kb) (hf : z'.fp = z.fp) (h : ∀ q, q ∉ z.fp → H' q = H q) : Kn K B S0 S σ H' F (G.set i (.ow z')) := by
  obtain ⟨h1, h2, _⟩ := car_at k hi
  have ha : z'.a = z.a := by
    have := hf
    unfold Car.fp at this
    exact (List.cons.inj this).1
  exact k.mut h1 (fun q hq => h q (by rw [← h2]; exact hq)) (fun q hq => c.some (by rw [hf, ← h2]; exact hq)) ⟨by rw [ha], by rw [h2, hf], dx, pv, sv, kf, kb, c⟩
theorem fp_a {q : Addr} (h : q ∉ z.fp) : q ≠ z.a := fun e => h (by rw [e]; simp [Car.fp])
theorem fp_w {q : Addr} (h : q ∉ z.fp) : q ≠ z.w := fun e => h (by rw [e]; simp [Car.fp])
theorem fp_s {q : Addr} (h : q ∉ z.fp) : q ≠ z.s := fun e => h (by rw [e]; simp [Car.fp])
theorem fp_f {q : Addr} (h : q ∉ z.fp) : q ≠ z.f := fun e => h (by rw [e]; simp [Car.fp])
theorem fp_b {q : Addr} (h : q ∉ z.fp) : q ≠ z.b := fun e => h (by rw [e]; simp [Car.fp])
theorem q_fld {α : Type} [Py α] {x : α} {f : Str} (n : Nat) (z' : Car C) (hn : fIx f carK = n) (hl : n < 12) (h : EvX K te G x G1) (hi : G1[i]? = some (.ow z)) (hf : z'.fp = z.fp)
    (step : ∀ {S H : Hp} {dx : Addr} {pv sv : V} {kf kb : List (Key × V)} {v : V}, CarAt K S H z dx pv sv kf kb → Py.rep K S v x → ∃ pv' sv', CarAt K S (upd H z.a (.ins C dx (putF f v (carK.zip (carV z pv sv))))) z' dx pv' sv' kf kb)
    (k : At K B S0 (u E) (G1.set i (.ow z'))) : At K B S0 (tSeq (sFld K (tVar i) te f) u E) G := fun S σ H F kn =>
  h B S0 S σ H F kn _ fun v S1 H1 e1 k1 r1 => by
    obtain ⟨h1, h2, dx, pv, sv, kf, kb, c⟩ := car_at k1 hi
    obtain ⟨pv', sv', c'⟩ := step c r1
    exact ⟨.ref z.a, h1, z.a, C, dx, _, rfl, c.ob, c.cl, c.na f (fld_mem _ (by rw [hn]; exact hl)), by show (carK.zip (carV z pv sv)).length < 1000; simp [carK, carV], k S1 σ _ F (car_upd k1 hi c' hf fun q hq => upd_ne (fp_a hq))⟩
theorem q_place {x : Int} (h : EvX K te G x G1) (hi : G1[i]? = some (.ow z)) (k : At K B S0 (u E) (G1.set i (.ow ({ z with place := x } : Car C)))) : At K B S0 (tSeq (sFld K (tVar i) te "place") u E) G :=
  q_fld 3 ({ z with place := x } : Car C) (by decide +kernel) (by decide) h hi rfl (fun c r => ⟨_, _, c.set (n := 3) (by decide +kernel) (by decide) (by rw [show _ = V.int x from r]; rfl) rfl rfl rfl rfl rfl rfl rfl rfl rfl c.rg c.rs⟩) k
theorem q_done {x : Int} (h : EvX K te G x G1) (hi : G1[i]? = some (.ow z)) (k : At K B S0 (u E) (G1.set i (.ow ({ z with done := x } : Car C)))) : At K B S0 (tSeq (sFld K (tVar i) te "done") u E) G :=
  q_fld 6 ({ z with done := x } : Car C) (by decide +kernel) (by decide) h hi rfl (fun c r => ⟨_, _, c.set (n := 6) (by decide +kernel) (by decide) (by rw [show _ = V.int x from r]; rfl) rfl rfl rfl rfl rfl rfl rfl rfl rfl c.rg c.rs⟩) k
theorem q_made {x : Int} (h : EvX K te G x G1) (hi : G1[i]? = some (.ow z)) (k : At K B S0 (u E) (G1.set i (.ow ({ z with made := x } : Car C)))) : At K B S0 (tSeq (sFld K (tVar i) te "made") u E) G :=
  q_fld 10 ({ z with made := x } : Car C) (by decide +kernel) (by decide) h hi rfl (fun c r => ⟨_, _, c.set (n := 10) (by decide +kernel) (by decide) (by rw [show _ = V.int x from r]; rfl) rfl rfl rfl rfl rfl rfl rfl rfl rfl c.rg c.rs⟩) k
theorem q_goal {x : Option Int} (h : EvX K te G x G1) (hi : G1[i]? = some (.ow z)) (k : At K B S0 (u E) (G1.set i (.ow ({ z with goal := x } : Car C)))) : At K B S0 (tSeq (sFld K (tVar i) te "goal") u E) G :=
  q_fld 7 ({ z with goal := x } : Car C) (by decide +kernel) (by decide) h hi rfl (fun c r => ⟨_, _, c.set (n := 7) (by decide +kernel) (by decide) (by rw [oV_rep r]; rfl) rfl rfl rfl rfl rfl rfl rfl rfl rfl c.rg c.rs⟩) k
theorem q_is_still {x : Bool} (h : EvX K te G x G1) (hi : G1[i]? = some (.ow z)) (k : At K B S0 (u E) (G1.set i (.ow ({ z with still := x } : Car C)))) : At K B S0 (tSeq (sFld K (tVar i) te "is_still") u E) G :=
  q_fld 8 ({ z with still := x } : Car C) (by decide +kernel) (by decide) h hi rfl (fun c r => ⟨_, _, c.set (n := 8) (by decide +kernel) (by decide) (by rw [show _ = V.bl x from r]; rfl) rfl rfl rfl rfl rfl rfl rfl rfl rfl c.rg c.rs⟩) k
theorem fld_ref {f : Str} (n : Nat) (hn : fIx f carK = n) (hl : n < 12) (k : Kn K B S0 S σ H F G) (hi : G[i]? = some (.ow z)) {p : Addr} {Q : VK} (hv : ∀ pv sv, (carV z pv sv)[n]? = some (V.ref p)) (q : Q (.ref p) H) : tFld K (tVar i) f σ H Q := by
  obtain ⟨h1, h2, dx, pv, sv, kf, kb, c⟩ := car_at k hi
  exact ⟨.ref z.a, h1, z.a, C, dx, _, _, rfl, c.ob, c.cl, c.na f (fld_mem _ (by rw [hn]; exact hl)), by rw [look_zip hn hl]; exact hv pv sv, q⟩
theorem at_w {Q : VK} (k : Kn K B S0 S σ H F G) (hi : G[i]? = some (.ow z)) (q : Q (.ref z.w) H) : tFld K (tVar i) "waiting" σ H Q := fld_ref 4 (by decide +kernel) (by decide) k hi (fun _ _ => rfl) q
theorem at_s {Q : VK} (k : Kn K B S0 S σ H F G) (hi : G[i]? = some (.ow z)) (q : Q (.ref z.s) H) : tFld K (tVar i) "spoken" σ H Q := fld_ref 5 (by decide +kernel) (by decide) k hi (fun _ _ => rfl) q
theorem at_f {Q : VK} (k : Kn K B S0 S σ H F G) (hi : G[i]? = some (.ow z)) (q : Q (.ref z.f) H) : tFld K (tVar i) "fresh" σ H Q := fld_ref 9 (by decide +kernel) (by decide) k hi (fun _ _ => rfl) q
theorem at_b {Q : VK} (k : Kn K B S0 S σ H F G) (hi : G[i]? = some (.ow z)) (q : Q (.ref z.b) H) : tFld K (tVar i) "absent" σ H Q := fld_ref 11 (by decide +kernel) (by decide) k hi (fun _ _ => rfl) q
theorem ev_inB_ {n : Int} (hk : EvX K ta G n G) (hi : G[i]? = some (.ow z)) : EvX K (tDIn ta (tFld K (tVar i) "absent")) G (z.absent.get? n).isSome G := fun B S0 S σ H F k Q q =>
  hk B S0 S σ H F k _ fun v S1 H1 e1 k1 r1 => at_b k1 hi (by
    obtain ⟨h1, h2, dx, pv, sv, kf, kb, c⟩ := car_at k1 hi
    rw [show v = .int n from r1]
    exact ⟨z.b, _, rfl, dgetI c.hb, q _ S1 H1 e1 k1 (by rw [c.rb.isSome]; rfl)⟩)
theorem ev_ninB_ {n : Int} (hk : EvX K ta G n G) (hi : G[i]? = some (.ow z)) : EvX K (tDNotIn ta (tFld K (tVar i) "absent")) G (!(z.absent.get? n).isSome) G := fun B S0 S σ H F k Q q =>
  hk B S0 S σ H F k _ fun v S1 H1 e1 k1 r1 => at_b k1 hi (by
    obtain ⟨h1, h2, dx, pv, sv, kf, kb, c⟩ := car_at k1 hi
    rw [show v = .int n from r1]
    exact ⟨z.b, _, rfl, dgetI c.hb, q _ S1 H1 e1 k1 (by rw [c.rb.isSome]; rfl)⟩)
theorem ev_ninF {n : Int} (hk : EvX K ta G n G) (hi : G[i]? = some (.ow z)) : EvX K (tDNotIn ta (tFld K (tVar i) "fresh")) G (!(z.fresh.get? n).isSome) G := fun B S0 S σ H F k Q q =>
  hk B S0 S σ H F k _ fun v S1 H1 e1 k1 r1 => at_f k1 hi (by
    obtain ⟨h1, h2, dx, pv, sv, kf, kb, c⟩ := car_at k1 hi
    rw [show v = .int n from r1]
    exact ⟨z.f, _, rfl, dgetI c.hf, q _ S1 H1 e1 k1 (by rw [c.rf.isSome]; rfl)⟩)
theorem ev_neB (hi : G[i]? = some (.ow z)) : EvX K (tOp rNeE (tFld K (tVar i) "absent") tDNewK) G (!z.absent.l.isEmpty) G := fun B S0 S σ H F k Q q => at_b k hi (by
  intro p hp
  obtain ⟨h1, h2, dx, pv, sv, kf, kb, c⟩ := car_at k hi
  refine ⟨z.b, p, kb, rfl, rfl, by rw [upd_ne (ne_of_none c.hb hp)]; exact c.hb, upd_same, q _ S _ (Same.refl _) (k.raw hp) ?_⟩
  have hl := c.rb.len
  cases kb <;> cases e : z.absent.l <;> rw [e] at hl <;> first | rfl | cases hl)
theorem ev_popW (hi : G[i]? = some (.ow z)) (hx : z.wait ≠ []) : EvX K (tBM K "list" rPopAt (tFld K (tVar i) "waiting") (tCons (tC (.int 0)) tNil)) G (ix z.wait 0) (G.set i (.ow ({ z with wait := z.wait.drop 1 } : Car C))) := fun B S0 S σ H F k Q q => at_w k hi (by
  obtain ⟨h1, h2, dx, pv, sv, kf, kb, c⟩ := car_at k hi
  have hw := c.hw
  cases e : z.wait with
  | nil => exact absurd e hx
  | cons x xs =>
    rw [e] at hw
    refine ⟨.inl ⟨rfl, _, SqL.of hw⟩, z.w, (x :: xs).map V.int, 0, 0, .int x, rfl, rfl, hw, by decide, by decide, ?_, rfl, q _ S _ (Same.refl _) ?_ (by rw [e]; rfl)⟩
    · unfold seqIndex?
      simp
    · have c' := c.setW (l := xs)
      exact car_upd (z' := ({ z with wait := z.wait.drop 1 } : Car C)) k hi (by rw [e]; exact c') rfl fun q hq => upd_ne (fp_w hq))
theorem q_appS {x : Int} (hi : G[i]? = some (.ow z)) (h : EvX K te G x G) (hz : z.said.length < sizeLine) (k : At K B S0 (u E) (G.set i (.ow ({ z with said := z.said ++ [x] } : Car C)))) : At K B S0 (tSeq (tDrop (tBM K "list" rAppend (tFld K (tVar i) "spoken") (tCons te tNil))) u E) G := fun S σ H F kn => by
  unfold tSeq tDrop tBM
  refine at_s kn hi ?_
  obtain ⟨h1, h2, dx, pv, sv, kf, kb, c⟩ := car_at kn hi
  refine ⟨.inl ⟨rfl, _, SqL.of c.hs⟩, h B S0 S σ H F kn _ fun v S1 H1 e1 k1 r1 => ?_⟩
  obtain ⟨h1, h2, dx, pv, sv, kf, kb, c⟩ := car_at k1 hi
  refine ⟨z.s, _, v, rfl, rfl, c.hs, by rw [List.length_map]; exact hz, k S1 σ _ F (car_upd (dx := dx) (pv := pv) (sv := sv) (kf := kf) (kb := kb) k1 hi ?_ rfl fun q hq => upd_ne (fp_s hq))⟩
  rw [show v = .int x from r1, ← List.map_singleton (f := V.int), ← List.map_append]
  exact c.setS
theorem pop_no {kvs : List (Key × V)} {n : Int} {p : Addr} (h : valV kvs (Sum.inl n) = none) (e : H p = some (.dK kvs)) : upd H p (.dK (dropK kvs (Sum.inl n))) = H := by
  rw [dropK_no (valV_not h)]
  funext q
  by_cases z : q = p
  · rw [z, upd_same, e]
  · rw [upd_ne z]
theorem q_popF {n : Int} (hi : G[i]? = some (.ow z)) (hk : EvX K tb G n G) (k : At K B S0 (u E) (G.set i (.ow ({ z with fresh := z.fresh.del n } : Car C)))) : At K B S0 (tSeq (tDrop (tDPop2 (tFld K (tVar i) "fresh") tb (tC .non))) u E) G := fun S σ H F kn => by
  unfold tSeq tDrop tDPop2
  refine at_f kn hi ?_
  obtain ⟨h1, h2, dx, pv, sv, kf, kb, c⟩ := car_at kn hi
  refine ⟨z.f, rfl, .inl ⟨kf, .inl c.hf⟩, hk B S0 S σ H F kn _ fun w S2 H2 e2 k2 r2 => ?_⟩
  obtain ⟨h1, h2, dx, pv, sv, kf, kb, c⟩ := car_at k2 hi
  rw [show w = .int n from r2]
  have kd := k S2 σ _ F (car_upd k2 hi (c.setF (d := z.fresh.del n) (c.rf.del n)) rfl fun q hq => upd_ne (fp_f hq))
  refine ⟨kf, Sum.inl n, c.hf, rfl, fun v _ => kd, fun hn => ?_⟩
  rw [pop_no hn c.hf] at kd
  exact kd
theorem q_popB {n : Int} (hi : G[i]? = some (.ow z)) (hk : EvX K tb G n G) (k : At K B S0 (u E) (G.set i (.ow ({ z with absent := z.absent.del n } : Car C)))) : At K B S0 (tSeq (tDrop (tDPop2 (tFld K (tVar i) "absent") tb (tC .non))) u E) G := fun S σ H F kn => by
  unfold tSeq tDrop tDPop2
  refine at_b kn hi ?_
  obtain ⟨h1, h2, dx, pv, sv, kf, kb, c⟩ := car_at kn hi
  refine ⟨z.b, rfl, .inl ⟨kb, .inl c.hb⟩, hk B S0 S σ H F kn _ fun w S2 H2 e2 k2 r2 => ?_⟩
  obtain ⟨h1, h2, dx, pv, sv, kf, kb, c⟩ := car_at k2 hi
  rw [show w = .int n from r2]
  have kd := k S2 σ _ F (car_upd k2 hi (c.setB (d := z.absent.del n) (c.rb.del n)) rfl fun q hq => upd_ne (fp_b hq))
  refine ⟨kb, Sum.inl n, c.hb, rfl, fun v _ => kd, fun hn => ?_⟩
  rw [pop_no hn c.hb] at kd
  exact kd
theorem q_pop1B {n : Int} (hi : G[i]? = some (.ow z)) (hk : EvX K tb G n G) (hn : (z.absent.get? n).isSome = true) (k : At K B S0 (u E) (G.set i (.ow ({ z with absent := z.absent.del n } : Car C)))) : At K B S0 (tSeq (tDrop (tDPop1 (tFld K (tVar i) "absent") tb)) u E) G := fun S σ H F kn => by
  unfold tSeq tDrop tDPop1
  refine at_b kn hi ?_
  obtain ⟨h1, h2, dx, pv, sv, kf, kb, c⟩ := car_at kn hi
  refine ⟨z.b, rfl, .inl ⟨kb, .inl c.hb⟩, hk B S0 S σ H F kn _ fun w S2 H2 e2 k2 r2 => ?_⟩
  obtain ⟨h1, h2, dx, pv, sv, kf, kb, c⟩ := car_at k2 hi
  rw [show w = .int n from r2]
  rw [← c.rb.isSome] at hn
  obtain ⟨v, hv⟩ := Option.isSome_iff_exists.mp hn
  exact ⟨kb, Sum.inl n, v, c.hb, rfl, hv, k S2 σ _ F (car_upd k2 hi (c.setB (d := z.absent.del n) (c.rb.del n)) rfl fun q hq => upd_ne (fp_b hq))⟩
theorem q_putF {n : Int} {x : Bool} (h : EvX K te G x G) (hi : G[i]? = some (.ow z)) (hk : EvX K tb G n G) (hz : z.fresh.l.length < sizeLine) (k : At K B S0 (u E) (G.set i (.ow ({ z with fresh := z.fresh.put n x } : Car C)))) : At K B S0 (tSeq (sDPut (tFld K (tVar i) "fresh") tb te) u E) G := fun S σ H F kn =>
  h B S0 S σ H F kn _ fun v S1 H1 e1 k1 r1 => at_f k1 hi (hk B S0 S1 σ H1 F k1 _ fun w S2 H2 e2 k2 r2 => by
    obtain ⟨h1, h2, dx, pv, sv, kf, kb, c⟩ := car_at k2 hi
    rw [show w = .int n from r2]
    exact ⟨z.f, _, rfl, DPut.k (k := Sum.inl n) c.hf (by rw [c.rf.len]; exact hz), k S2 σ _ F (car_upd k2 hi (c.setF (c.rf.put n (Py.mono e2 r1))) rfl fun q hq => upd_ne (fp_f hq))⟩)
theorem q_putB {n : Int} {x : Bool} (h : EvX K te G x G) (hi : G[i]? = some (.ow z)) (hk : EvX K tb G n G) (hz : z.absent.l.length < sizeLine) (k : At K B S0 (u E) (G.set i (.ow ({ z with absent := z.absent.put n x } : Car C)))) : At K B S0 (tSeq (sDPut (tFld K (tVar i) "absent") tb te) u E) G := fun S σ H F kn =>
  h B S0 S σ H F kn _ fun v S1 H1 e1 k1 r1 => at_b k1 hi (hk B S0 S1 σ H1 F k1 _ fun w S2 H2 e2 k2 r2 => by
    obtain ⟨h1, h2, dx, pv, sv, kf, kb, c⟩ := car_at k2 hi
    rw [show w = .int n from r2]
    exact ⟨z.b, _, rfl, DPut.k (k := Sum.inl n) c.hb (by rw [c.rb.len]; exact hz), k S2 σ _ F (car_upd k2 hi (c.setB (c.rb.put n (Py.mono e2 r1))) rfl fun q hq => upd_ne (fp_b hq))⟩)
theorem ev_callW {β : Type} [Py β] [NoL β] {f : Prog × Stand × List Int × Unit → β} {pre : Prog × Stand × List Int × Unit → Prop} {Ex : XK} (hi : G[i]? = some (.ow z)) (hp : pre (z.g, z.st, z.wait, ())) :
    EvX K (tCall (spF K f pre) [] Ex (tCons (tFld K (tVar i) "program") (tCons (tFld K (tVar i) "stand") (tCons (tFld K (tVar i) "waiting") tNil)))) G (f (z.g, z.st, z.wait, ())) G := fun B S0 S σ H F k Q q => by
  obtain ⟨h1, h2, dx, pv, sv, kf, kb, c⟩ := car_at k hi
  have na : ∀ k ∈ carK, NoAttr K C k := c.na
  refine ⟨.ref z.a, h1, z.a, C, dx, _, pv, rfl, c.ob, c.cl, na _ (by decide +kernel), by rw [look_zip (n := 0) (by decide +kernel) (by decide)]; rfl, ?_⟩
  refine ⟨.ref z.a, h1, z.a, C, dx, _, sv, rfl, c.ob, c.cl, na _ (by decide +kernel), by rw [look_zip (n := 1) (by decide +kernel) (by decide)]; rfl, at_w k hi ?_⟩
  show spF K f pre ([pv, sv, .ref z.w] ++ []) H _ Ex
  rw [List.append_nil]
  obtain ⟨hs, hb, _⟩ := k.off i z.w (by rw [h2]; simp [Car.fp])
  have e1 : Same S (upd S z.w (.lst (z.wait.map V.int))) := same_new hs
  refine ⟨upd S z.w (.lst (z.wait.map V.int)), (z.g, z.st, z.wait, ()), fun q o e => ?_, ⟨_, _, rfl, Py.mono e1 c.rg, _, _, rfl, Py.mono e1 c.rs, _, _, rfl, ⟨z.w, _, rfl, upd_same, RepL.of_ints _⟩, rfl⟩, hp, fun w S2 H2 g r2 => ?_⟩
  · by_cases e2 : q = z.w
    · rw [e2, upd_same] at e
      cases e
      rw [e2]
      exact c.hw
    · rw [upd_ne e2] at e
      exact k.sub q o e
  · have gl := g.lent hs
    exact q w (del S2 z.w) H2 gl.s (k.grow gl) (NoL.go (g.s _ _ upd_same) r2)
end
end GL
namespace GL
open PySem PySem.Spec PyProof.Rows L2
structure MDef (K : Fg) (C : Addr) (m q : Str) (st : Stmt) (ps : List Str) : Prop where
  ex : ∃ (f : Addr) (fd : FuncData), Meth K C m f ∧ Fun K m q st f fd ∧ Binds K fd ps []
structure MCal (P : Program) (w : World) (K : Fg) (mg : Str → Option Value) (base : Heap) (k : Nat) (C : Addr) (m : Str) (ps : List Str) (sp : Sp) : Prop where
  ex : ∃ (f : Addr) (fd : FuncData), Meth K C m f ∧ FnOk P w K mg base CX0 k f fd ps sp ∧ Binds K fd ps []
structure ICal (P : Program) (w : World) (K : Fg) (mg : Str → Option Value) (base : Heap) (k : Nat) (C : Addr) (x : Str) (ps : List Str) (sp : Sp) : Prop where
  ex : ∃ (f : Addr) (fd : FuncData), Mk K C f ∧ mg x = some (.ref C) ∧ FnOk P w K mg base CX0 k f fd ps sp ∧ Binds K fd ps []
theorem pe_mcal {X : Cx} {j k : Nat} {C : Addr} {m : Str} {ps : List Str} {sp : Sp} {o e : Expr} {es : List Expr} {ta : TE} {t : TA} {apos pos : Pos} {pl : Sem Bool} (c : MCal X.prog X.w X.K X.mg X.base k C m ps sp) (cl : Cls X.K C) (hr : Room j X.A) (hk : k ≤ j) (he : PE X o ta) (ha : PA X (e :: es) t)
    (hst : starEach (e :: es) X.env = (false, eval e X.env) :: starEach es X.env := by rfl) (hpl : (backTo pos (starEach es X.env)).any (·.1) = false := by rfl)
    (ht : eval (.Call (.Attribute o m apos) (e :: es) [] pos) X.env = (do
      let ov ← eval o X.env
      standAt apos.atName
      let (f, first) ← holding [ov] (getMethod ov m pl)
      callWith pos f first (backTo pos (starEach (e :: es) X.env)) (backToKw pos (keywordEach [] X.env))) := by rfl) :
    PE X (.Call (.Attribute o m apos) (e :: es) [] pos) (tMeth C m sp [] E0 ta t) := by
  obtain ⟨f, fd, a, b, d⟩ := c.ex
  exact pe_meth (pl := pl) he cl a b (hr.mono hk) d .nil pass0 ha hst hpl ht
theorem pe_mcal0 {X : Cx} {j k : Nat} {C : Addr} {m : Str} {ps : List Str} {sp : Sp} {o : Expr} {ta : TE} {apos pos : Pos} {pl : Sem Bool} (c : MCal X.prog X.w X.K X.mg X.base k C m ps sp) (cl : Cls X.K C) (hr : Room j X.A) (hk : k ≤ j) (he : PE X o ta)
    (ht : eval (.Call (.Attribute o m apos) [] [] pos) X.env = (do
      let ov ← eval o X.env
      standAt apos.atName
      let (f, first) ← holding [ov] (getMethod ov m pl)
      callWith pos f first (backTo pos (starEach [] X.env)) (backToKw pos (keywordEach [] X.env))) := by rfl) :
    PE X (.Call (.Attribute o m apos) [] [] pos) (tMeth C m sp [] E0 ta tNil) := by
  obtain ⟨f, fd, a, b, d⟩ := c.ex
  exact pe_meth0 (pl := pl) he cl a b (hr.mono hk) d .nil pass0 ht
theorem pe_ical {X : Cx} {j k : Nat} {C : Addr} {x : Str} {ps : List Str} {sp : Sp} {e : Expr} {es : List Expr} {t : TA} {p pos : Pos} (c : ICal X.prog X.w X.K X.mg X.base k C x ps sp) (hr : Room j X.A) (hk : k + 1 ≤ j) (hg : Gl X x) (ha : PA X (e :: es) t)
    (hd : (x == ("__debug__" : Str)) = false := by decide) (hs : starEach (e :: es) X.env = (false, eval e X.env) :: starEach es X.env := by rfl) (hpl : (backTo pos (starEach es X.env)).any (·.1) = false := by rfl) :
    PE X (.Call (.Name x p) (e :: es) [] pos) (tMake C sp [] E0 t) := by
  obtain ⟨f, fd, a, b, c, d⟩ := c.ex
  exact pe_make a c (hr.mono hk) hg b d .nil pass0 ha hd hs hpl
theorem Cal.alias {P : Program} {w : World} {K : Fg} {mg : Str → Option Value} {base : Heap} {k : Nat} {x y : Str} {ps : List Str} {sp : Sp} (c : Cal P w K mg base k x ps sp) (h : mg y = mg x) : Cal P w K mg base k y ps sp := by
  obtain ⟨f, fd, a, b, c, d⟩ := c.ex
  exact ⟨f, fd, h.trans a, b, c, d⟩
def spO {ω α β : Type} [Own ω] [PyA α] [Py β] (K : Fg) (R : ω → α → β → ω → Prop) (pre : ω → α → Prop) : Sp := fun vs H Q _ => ∃ (S : Hp) (v0 : V) (ws : List V) (ps : List Addr) (z : ω) (a : α), vs = v0 :: ws ∧ Same S H ∧ Own.own K S H v0 ps z ∧
  (∀ p ∈ ps, S p = none ∧ ∃ o, H p = some o) ∧ PyA.rep K S ws a ∧ pre z a ∧ ∀ v S' H' ps' y z', R z a y z' → Same S S' → Same S' H' → (∀ p o, p ∉ ps → H p = some o → H' p = some o) → (∀ p o, p ∉ ps → H p = some o → S' p = S p) →
    (∀ p ∈ ps', S' p = none ∧ (∃ o, H' p = some o) ∧ (p ∈ ps ∨ H p = none)) → Own.own K S' H' v0 ps' z' → Py.rep K S' v y → Q v H'
section
variable {K : Fg} {B S0 S1 S S' D : Hp} {σ : L2.St} {H H' : Hp} {F : Nat → List Addr} {G G' G1 G2 : List Sl} {ta te : TE} {i j : Nat} {t : TA} {u : TS} {E : Ends} {Ex : XK}
variable {ω α β : Type} [Own ω] [PyA α] [Py β] {z z' : ω} {a : α}
theorem Kn.moved {S2 H2 : Hp} {v0 : V} {ps' : List Addr} (k1 : Kn K B S0 S1 σ H F G1) (hi1 : G1[i]? = some (.ow z)) (h1 : σ[i]? = some (some v0)) (s1 : Same S1 S2) (s2 : Same S2 H2) (hk : ∀ p o, p ∉ F i → H p = some o → H2 p = some o) (hc : ∀ p o, p ∉ F i → H p = some o → S2 p = S1 p)
    (hl : ∀ p ∈ ps', S2 p = none ∧ (∃ o, H2 p = some o) ∧ (p ∈ F i ∨ H p = none)) (ho : Own.own K S2 H2 v0 ps' z') : Kn K B S0 S2 σ H2 (upF F i ps') (G1.set i (.ow z')) := by
  have hB : ∀ p ∈ ps', B p = none := fun p hp => by
    rcases (hl p hp).2.2 with m | m
    · exact (k1.off i p m).2.1
    · exact (k1.free m).2.1
  have hN : ∀ p ∈ ps', ∀ j, j ≠ i → p ∉ F j := fun p hp j hj m => by
    rcases (hl p hp).2.2 with m' | m'
    · exact hj (k1.dj j i p m m')
    · exact (k1.free m').2.2 j m
  refine ⟨k1.s0.trans s1, s2, fun p o e => ?_, fun p o e => (hc p o (fun m => by rw [(k1.off i p m).2.1] at e; cases e) (k1.keep p o e)).trans (k1.clean p o e), fun j p hp => ?_, fun a b p ha hb => ?_, by rw [List.length_set]; exact k1.len, fun j s e => ?_⟩
  · exact hk p o (fun m => by rw [(k1.off i p m).2.1] at e; cases e) (k1.keep p o e)
  · by_cases c : j = i
    · rw [c, upF_self] at hp
      exact ⟨(hl p hp).1, hB p hp, (hl p hp).2.1⟩
    · rw [upF_ne c] at hp
      obtain ⟨a1, a2, o, a3⟩ := k1.off j p hp
      exact ⟨(hc p o (fun m => c (k1.dj j i p hp m)) a3).trans a1, a2, o, hk p o (fun m => c (k1.dj j i p hp m)) a3⟩
  · by_cases ca : a = i
    · by_cases cb : b = i
      · rw [ca, cb]
      · rw [ca, upF_self] at ha
        rw [upF_ne cb] at hb
        exact absurd hb (hN p ha b cb)
    · rw [upF_ne ca] at ha
      by_cases cb : b = i
      · rw [cb, upF_self] at hb
        exact absurd ha (hN p hb a ca)
      · rw [upF_ne cb] at hb
        exact k1.dj a b p ha hb
  · rcases set_get e with ⟨rfl, rfl⟩ | ⟨ne, e⟩
    · rw [upF_self]
      exact ⟨v0, h1, ho⟩
    · rw [upF_ne ne]
      have w := k1.sl j s e
      cases s with
      | no => exact True.intro
      | im y =>
        obtain ⟨u, b1, b2⟩ := w
        exact ⟨u, b1, Py.mono s1 b2⟩
      | ow y =>
        obtain ⟨u, b1, b2⟩ := w
        refine ⟨u, b1, Own.mono s1 (fun p hp => ?_) b2⟩
        obtain ⟨_, _, o, a3⟩ := k1.off j p hp
        rw [a3]
        exact hk p o (fun m => ne (k1.dj j i p hp m)) a3
end
section
variable {C : Addr} {K : Fg} {B S0 S1 S S' D : Hp} {σ : L2.St} {H H' : Hp} {F : Nat → List Addr} {G G' G1 G2 : List Sl} {ta te : TE} {i j : Nat} {t : TA} {u : TS} {E : Ends} {Ex : XK} {m : Str}
variable {α β : Type} [PyA α] [Py β] {z z1 : Car C} {a : α} {f : Car C → α → β × Car C} {R : Car C → α → β → Car C → Prop} {pre : Car C → α → Prop}
theorem ev_methM (hm : m ∉ carK) (hi : G[i]? = some (.ow z)) (ha : EvA K t G a G1) (hi1 : G1[i]? = some (.ow z1)) (hp : pre z1 a) : EvX K (tMeth C m (spM K f pre) [] Ex (tVar i) t) G (f z1 a).1 (G1.set i (.ow (f z1 a).2)) := fun B S0 S σ H F k Q q => by
  obtain ⟨h1, h2, dx, pv, sv, kf, kb, c⟩ := car_at k hi
  obtain ⟨v, hv, ht⟩ := ev_callM (E := Ex) hi ha hi1 hp B S0 S σ H F k Q q
  rw [h1] at hv
  cases hv
  exact ⟨.ref z.a, h1, z.a, dx, _, rfl, c.ob, look_none hm, ht⟩
theorem q_methO (hm : m ∉ carK) (hi : G[i]? = some (.ow z)) (ha : EvA K t G a G1) (hi1 : G1[i]? = some (.ow z1)) (hp : pre z1 a) (k : ∀ y z', R z1 a y z' → At K B S0 (u E) (G1.set i (.ow z'))) : At K B S0 (tSeq (tDrop (tMeth C m (spO K R pre) [] Ex (tVar i) t)) u E) G := fun S σ H F kn => by
  unfold tSeq tDrop tMeth
  obtain ⟨h1, h2, dx, pv, sv, kf, kb, c⟩ := car_at kn hi
  refine ⟨.ref z.a, h1, z.a, dx, _, rfl, c.ob, look_none hm, ha B S0 S σ H F kn _ fun vs S1 H1 e1 k1 r1 => ?_⟩
  show spO K R pre (.ref z.a :: (vs ++ [])) H1 _ Ex
  rw [List.append_nil]
  obtain ⟨v1, h3, h4⟩ := k1.ow hi1
  rw [h1] at h3
  cases h3
  exact ⟨S1, .ref z.a, vs, F i, z1, a, rfl, k1.sub, h4, fun p hp => ⟨(k1.off i p hp).1, (k1.off i p hp).2.2⟩, r1, hp, fun v S2 H2 ps' y z' hR s1 s2 hk hc hl ho r2 => k y z' hR S2 σ H2 _ (k1.moved hi1 h1 s1 s2 hk hc hl ho)⟩
end
section
variable {P : Program} {w : World} {K : Fg} {mg : Str → Option Value} {base : Heap} {α β : Type} [Sls α] [Py β] {C : Addr}
theorem mdef_spM {x q : Str} {st : Stmt} {N ps : List Str} {k : Nat} {f : Car C → α → β × Car C} {pre : Car C → α → Prop} (D : MDef K C x q st ps) (S : FnScope N ps (defScope st)) (hn : PyA.n α + 1 = ps.length) (hA : ∀ z a, pre z a → Anch.fp (f z a).2 = Anch.fp z)
    (h : ∀ (fa : Addr) (cdv : Value) (A : Around) (outer : List Env) (s : Shared) (H : Hp) (E : XK), Room k (A.deeper (envOfC q (defScope st) s.heap.objs.size fa cdv)) →
      ∃ t, PSs (cxOf CX0 P w K mg base N q (defScope st) fa cdv A outer s H E).nox (defBody st) t ∧
        ∀ (z : Car C) (a : α), pre z a → ∀ (B S0 : Hp) (Q : VK), (∀ (G' : List Sl) y z', G'[0]? = some (.ow z') → (y, z') = f z a → RT K B S0 Q y G') → At K B S0 (t { nx := fun _ H' => Q .non H', rt := Q }) (.ow z :: Sls.sls a ++ List.replicate (N.length - (PyA.n α + 1)) .no)) :
    MCal P w K mg base (k + 1) C x ps (spM K f pre) := by
  obtain ⟨fa, fd, m, Fu, b⟩ := D.ex
  refine ⟨fa, fd, m, Fu.ok S (fun vs H Q E ⟨S, v0, ws, qs, z, a, e, _, _, _, r, _⟩ => by rw [e, List.length_cons, PyA.len r]; exact hn) fun cdv A outer s H vs Q E hr ⟨S', v0, ws, qs, z, a, e, es, ho, hqs, r, hp, q⟩ => ?_, b⟩
  subst e
  obtain ⟨t, h1, h2⟩ := h fa cdv A outer s H E hr
  refine ⟨t, h1, ?_⟩
  have kn := start_knM (N := N) es ho hqs r
  refine h2 z a hp _ S' Q (fun G' y z' hz ey S1 σ1 H1 F1 v k1 r1 => ?_) S' _ H _ kn
  obtain ⟨v1, _, o1⟩ := k1.ow hz
  have e1 : z' = (f z a).2 := by rw [← ey]
  have e2 : y = (f z a).1 := by rw [← ey]
  have ef : (v1, F1 0) = (v0, qs) := (Anch.at_ o1).trans (by rw [e1, hA z a hp]; exact (Anch.at_ ho).symm)
  have ev : v1 = v0 := congrArg Prod.fst ef
  have eF : F1 0 = qs := congrArg Prod.snd ef
  rw [ev, eF] at o1
  subst e1 e2
  refine q v S1 H1 k1.s0 k1.sub (fun p o m e => k1.keep p o (by rw [if_neg m]; exact e)) (fun p o e => ?_) (fun p m => ?_) o1 r1
  · by_cases m : p ∈ qs
    · rw [(k1.off 0 p (by rw [eF]; exact m)).1, (hqs p m).1]
    · exact k1.clean p o (by rw [if_neg m]; exact e)
  · exact (k1.off 0 p (by rw [eF]; exact m)).2.2
theorem mdef_spO {x q : Str} {st : Stmt} {N ps : List Str} {k : Nat} {R : Car C → α → β → Car C → Prop} {pre : Car C → α → Prop} (D : MDef K C x q st ps) (S : FnScope N ps (defScope st)) (hn : PyA.n α + 1 = ps.length)
    (h : ∀ (fa : Addr) (cdv : Value) (A : Around) (outer : List Env) (s : Shared) (H : Hp) (E : XK), Room k (A.deeper (envOfC q (defScope st) s.heap.objs.size fa cdv)) →
      ∃ t, PSs (cxOf CX0 P w K mg base N q (defScope st) fa cdv A outer s H E).nox (defBody st) t ∧
        ∀ (z : Car C) (a : α), pre z a → ∀ (B S0 : Hp) (Q : VK), (∀ (G' : List Sl) y (z' : Car C), G'[0]? = some (.ow z') → z'.a = z.a → R z a y z' → RT K B S0 Q y G') → At K B S0 (t { nx := fun _ H' => Q .non H', rt := Q }) (.ow z :: Sls.sls a ++ List.replicate (N.length - (PyA.n α + 1)) .no)) :
    MCal P w K mg base (k + 1) C x ps (spO K R pre) := by
  obtain ⟨fa, fd, m, Fu, b⟩ := D.ex
  refine ⟨fa, fd, m, Fu.ok S (fun vs H Q E ⟨S, v0, ws, qs, z, a, e, _, _, _, r, _⟩ => by rw [e, List.length_cons, PyA.len r]; exact hn) fun cdv A outer s H vs Q E hr ⟨S', v0, ws, qs, z, a, e, es, ho, hqs, r, hp, q⟩ => ?_, b⟩
  subst e
  obtain ⟨t, h1, h2⟩ := h fa cdv A outer s H E hr
  refine ⟨t, h1, ?_⟩
  have kn := start_knM (N := N) es ho hqs r
  refine h2 z a hp _ S' Q (fun G' y z' hz ea hR S1 σ1 H1 F1 v k1 r1 => ?_) S' _ H _ kn
  obtain ⟨v1, _, o1⟩ := k1.ow hz
  have ev : v1 = v0 := by rw [o1.1, ho.1, ea]
  rw [ev] at o1
  refine q v S1 H1 (F1 0) y z' hR k1.s0 k1.sub (fun p o m e => k1.keep p o (by rw [if_neg m]; exact e)) (fun p o m e => k1.clean p o (by rw [if_neg m]; exact e)) (fun p m => ?_) o1 r1
  obtain ⟨a1, a2, a3⟩ := k1.off 0 p m
  refine ⟨a1, a3, ?_⟩
  by_cases c : p ∈ qs
  · exact .inl c
  · rw [if_neg c] at a2
    exact .inr a2
end
section
variable {C : Addr} {K : Fg} {B S0 S1 S S' D : Hp} {σ : L2.St} {H H' : Hp} {F : Nat → List Addr} {G G' G1 G2 : List Sl} {ta te : TE} {i j : Nat} {t : TA} {u : TS} {E : Ends} {Ex : XK} {m : Str} {z : Car C}
theorem q_newF (hi : G[i]? = some (.ow z)) (k : ∀ f' : Addr, At K B S0 (u E) (G.set i (.ow ({ z with f := f', fresh := Dct.emp } : Car C)))) : At K B S0 (tSeq (sFld K (tVar i) tDNewK "fresh") u E) G := fun S σ H F kn => by
  unfold tSeq sFld
  intro p hp
  obtain ⟨h1, h2, dx, pv, sv, kf, kb, c⟩ := car_at kn hi
  have na : z.a ≠ p := ne_of_none c.ob hp
  refine ⟨.ref z.a, h1, z.a, C, dx, _, rfl, by rw [upd_ne na]; exact c.ob, c.cl, c.na _ (by decide +kernel), by show (carK.zip (carV z pv sv)).length < 1000; simp [carK, carV], ?_⟩
  have nw : z.w ≠ p := ne_of_none c.hw hp
  have ns : z.s ≠ p := ne_of_none c.hs hp
  have nb : z.b ≠ p := ne_of_none c.hb hp
  have hH : ∀ q o, q ∉ F i → H q = some o → upd (upd H p (.dK [])) z.a (.ins C dx (putF "fresh" (.ref p) (carK.zip (carV z pv sv)))) q = some o := fun q o hq e => by
    rw [upd_ne (fun z' => hq (by rw [h2, z']; simp [Car.fp])), upd_ne (ne_of_none e hp)]
    exact e
  have c' : CarAt K S (upd (upd H p (.dK [])) z.a (.ins C dx (putF "fresh" (.ref p) (carK.zip (carV z pv sv))))) ({ z with f := p, fresh := Dct.emp } : Car C) dx pv sv [] kb := by
    refine ⟨c.cl, c.na, ?_, c.rg, c.rs, ?_, ?_, ?_, True.intro, ?_, c.rb, c.d1, nb.symm⟩
    · show upd _ z.a _ z.a = _
      rw [upd_same, put_zip (n := 9) (by decide +kernel) (by decide) rfl]
      rfl
    · show upd _ z.a _ z.w = _
      rw [upd_ne c.ne_w, upd_ne nw]; exact c.hw
    · show upd _ z.a _ z.s = _
      rw [upd_ne c.ne_s, upd_ne ns]; exact c.hs
    · show upd _ z.a _ p = _
      rw [upd_ne na.symm, upd_same]
    · show upd _ z.a _ z.b = _
      rw [upd_ne c.ne_b, upd_ne nb]; exact c.hb
  refine k p S σ _ _ (kn.moved (z' := ({ z with f := p, fresh := Dct.emp } : Car C)) (ps' := [z.a, z.w, z.s, p, z.b]) hi h1 (Same.refl _) (fun q o e => ?_) hH (fun _ _ _ _ => rfl) (fun q hq => ?_) ⟨rfl, rfl, dx, pv, sv, [], kb, c'⟩)
  · exact hH q o (fun m => by rw [(kn.off i q m).1] at e; cases e) (kn.sub q o e)
  · have hs : S q = none := by
      simp only [List.mem_cons, List.mem_nil_iff, or_false] at hq
      rcases hq with e | e | e | e | e <;> rw [e]
      · exact (kn.off i _ (by rw [h2]; simp [Car.fp])).1
      · exact (kn.off i _ (by rw [h2]; simp [Car.fp])).1
      · exact (kn.off i _ (by rw [h2]; simp [Car.fp])).1
      · exact (kn.free hp).1
      · exact (kn.off i _ (by rw [h2]; simp [Car.fp])).1
    refine ⟨hs, c'.some (show q ∈ ({ z with f := p, fresh := Dct.emp } : Car C).fp from hq), ?_⟩
    simp only [List.mem_cons, List.mem_nil_iff, or_false] at hq
    rcases hq with e | e | e | e | e
    · left; rw [e, h2]; simp [Car.fp]
    · left; rw [e, h2]; simp [Car.fp]
    · left; rw [e, h2]; simp [Car.fp]
    · right; rw [e]; exact hp
    · left; rw [e, h2]; simp [Car.fp]
theorem q_tick5 {β γ δ ε : Type} [Py β] [Py γ] [Py δ] [Py ε] {w : T5 Stand β γ δ ε} {j1 j2 j3 j4 : Nat} (h : EvX K te G w G1) (hi : G1[i]? = some (.ow z)) (g1 : (G1.set i (.ow ({ z with st := w.a } : Car C)))[j1]?.isSome = true)
    (g2 : ((G1.set i (.ow ({ z with st := w.a } : Car C))).set j1 (.im w.b))[j2]?.isSome = true) (g3 : (((G1.set i (.ow ({ z with st := w.a } : Car C))).set j1 (.im w.b)).set j2 (.im w.c))[j3]?.isSome = true)
    (g4 : ((((G1.set i (.ow ({ z with st := w.a } : Car C))).set j1 (.im w.b)).set j2 (.im w.c)).set j3 (.im w.d))[j4]?.isSome = true)
    (k : ∀ b c d e, b = w.b → c = w.c → d = w.d → e = w.e → At K B S0 (u E) (((((G1.set i (.ow ({ z with st := w.a } : Car C))).set j1 (.im b)).set j2 (.im c)).set j3 (.im d)).set j4 (.im e))) :
    At K B S0 (tSeq (tAsg te (gTup K 5 (gCons (gFld K (tVar i) "stand") (gCons (gName j1) (gCons (gName j2) (gCons (gName j3) (gCons (gName j4) gNil))))))) u E) G := fun S σ H F kn =>
  h B S0 S σ H F kn _ fun v S1 H1 e1 k1 r1 => by
    obtain ⟨p, a, b, c, d, e, rfl, hp, ra, rb, rc, rd, re⟩ := r1
    obtain ⟨h1, h2, dx, pv, sv, kf, kb, ca⟩ := car_at k1 hi
    refine ⟨p, [a, b, c, d, e], rfl, seqT k1.sub hp, rfl, a, [b, c, d, e], rfl, .ref z.a, h1, z.a, C, dx, _, rfl, ca.ob, ca.cl, ca.na _ (by decide +kernel), by show (carK.zip (carV z pv sv)).length < 1000; simp [carK, carV], b, [c, d, e], rfl, c, [d, e], rfl, d, [e], rfl, e, [], rfl, rfl, ?_⟩
    have c' : CarAt K S1 (upd H1 z.a (.ins C dx (putF "stand" a (carK.zip (carV z pv sv))))) ({ z with st := w.a } : Car C) dx pv a kf kb := ca.set (n := 1) (by decide +kernel) (by decide) rfl rfl rfl rfl rfl rfl rfl rfl rfl rfl ca.rg ra
    have k2 := car_upd (z' := ({ z with st := w.a } : Car C)) k1 hi c' rfl fun q hq => upd_ne (fp_a hq)
    exact k _ _ _ _ rfl rfl rfl rfl S1 _ _ F ((((k2.set rb g1).set rc g2).set rd g3).set re g4)
end
structure Tw where
  w : Str
  r : List (Option Int)
  deriving DecidableEq
instance : Py Tw := ⟨fun K S v x => ∃ p, v = .ref p ∧ SqT K S p (.str x.w :: x.r.map oV), fun e ⟨p, h1, h2⟩ => ⟨p, h1, seqT e h2⟩⟩
def oD : Option Int → PyData
  | none => .none
  | some x => .int x
theorem dp_os {K : Fg} {H : Hp} : ∀ xs : List (Option Int), DpAll K H (xs.map oV) (xs.map oD)
  | [] => .nil
  | none :: xs => .cons .non (dp_os xs)
  | some x :: xs => .cons (.int x) (dp_os xs)
theorem lay_os : ∀ xs : List (Option Int), PyData.canLayAll0 (xs.map oD) = true
  | [] => rfl
  | none :: xs => by rw [List.map_cons, PyData.canLayAll0, lay_os xs]; rfl
  | some x :: xs => by rw [List.map_cons, PyData.canLayAll0, lay_os xs]; rfl
theorem dep_os : ∀ xs : List (Option Int), PyData.depthAll (xs.map oD) ≤ 0
  | [] => by rw [List.map_nil, PyData.depthAll]; exact Nat.le_refl _
  | none :: xs => by have := dep_os xs; rw [List.map_cons, PyData.depthAll]; simp [oD, PyData.depth]; omega
  | some x :: xs => by have := dep_os xs; rw [List.map_cons, PyData.depthAll]; simp [oD, PyData.depth]; omega
theorem eq_os : ∀ xs ys : List (Option Int), (PyData.eqvAll (xs.map oD) (ys.map oD) = true) ↔ xs = ys
  | [], [] => by simp [PyData.eqvAll]
  | [], _ :: _ => by simp [PyData.eqvAll]
  | _ :: _, [] => by simp [PyData.eqvAll]
  | x :: xs, y :: ys => by
    rw [List.map_cons, List.map_cons, PyData.eqvAll, Bool.and_eq_true, eq_os xs ys, List.cons.injEq]
    refine and_congr ?_ Iff.rfl
    cases x <;> cases y <;> simp [oD, PyData.eqv]
instance (priority := 600) : Dq Tw := ⟨fun x => .tuple (.str x.w :: x.r.map oD), fun x => (PyData.str x.w).canLay0 = true, fun e ⟨p, h1, h2⟩ => by rw [h1]; exact .tup (seqT e h2) (.cons (.str _) (dp_os _)),
  fun x h => by rw [PyData.canLay0, PyData.canLayAll0, h, lay_os]; rfl, 1, fun x => by have := dep_os x.r; rw [PyData.depth, PyData.depthAll]; simp [PyData.depth]; omega, fun x y => by
    obtain ⟨w, r⟩ := x
    obtain ⟨w', r'⟩ := y
    rw [PyData.eqv, PyData.eqvAll, Bool.and_eq_true, eq_os]
    simp [PyData.eqv]⟩
section
variable {K : Fg} {G G1 G2 : List Sl} {ta tb : TE}
theorem ev_tw1 {w : Str} : EvX K (tTup (tCons (tC (.str w)) tNil)) G (Tw.mk w []) G := fun B S0 S σ H F k Q q => ⟨by show 1 ≤ sizeLine; decide, fun p hp => q (.ref p) _ _ (same_new (k.free hp).1) (k.new hp) ⟨p, rfl, SqT.of upd_same⟩⟩
theorem ev_tw2 {x : Str} {y : Option Int} (ha : EvX K ta G x G1) (hb : EvX K tb G1 y G2) : EvX K (tTup (tCons ta (tCons tb tNil))) G (Tw.mk x [y]) G2 := fun B S0 S σ H F k Q q =>
  ha B S0 S σ H F k _ fun v S1 H1 e1 k1 r1 => hb B S0 S1 σ H1 F k1 _ fun v2 S2 H2 e2 k2 r2 => ⟨by show 2 ≤ sizeLine; decide, fun p hp => by
    rw [show v = .str x from r1, oV_rep r2]
    exact q (.ref p) _ _ ((e1.trans e2).trans (same_new (k2.free hp).1)) (k2.new hp) ⟨p, rfl, SqT.of upd_same⟩⟩
theorem ev_twW {x : Tw} (ha : EvX K ta G x G1) : EvX K (tOp (rIxT K) ta (tC (.int 0))) G x.w G1 := fun B S0 S σ H F k Q q =>
  ha B S0 S σ H F k _ fun v S1 H1 e1 k1 r1 => by
    obtain ⟨p, rfl, hp⟩ := r1
    exact ⟨p, _, 0, .str x.w, rfl, rfl, seqT k1.sub hp, atI_nat (j := 0) rfl, q _ S1 H1 e1 k1 rfl⟩
end
end GL
namespace GL
open PySem PySem.Spec PyProof.Rows L2
def spCI (K : Fg) (C : Addr) : Sp := fun vs H Q _ => ∃ (S : Hp) (x dx : Addr) (pv sv : V) (g : Prog) (st : Stand) (h : Int), vs = [.ref x, pv, sv, .int h] ∧ H x = some (.ins C dx []) ∧ Py.rep K S pv g ∧ Py.rep K S sv st ∧
  ∀ (w s f b : Addr) (H' : Hp), H w = none → H s = none → H f = none → H b = none → CarAt K S H' (Car.mk (C := C) x w s f b g st h 0 [] [] 0 none false Dct.emp 0 Dct.emp) dx pv sv [] [] → (∀ p o, p ≠ x → H p = some o → H' p = some o) → Q .non H'
section
variable {P : Program} {w : World} {K : Fg} {mg : Str → Option Value} {base : Heap} {C x dx : Addr} {H : Hp} {σ : L2.St} {u : TS} {D : Ends} {tv : TE} {f : Str} {ks : List Str} {vs : List V}
theorem st_put {y : V} (hσ : σ[0]? = some (some (.ref x))) (hx : H x = some (.ins C dx (ks.zip vs))) (cl : Cls K C) (na : NoAttr K C f) (hf : f ∉ ks) (hl : ks.length = vs.length) (hs : ks.length < 900) (hv : ∀ Q : VK, Q y H → tv σ H Q)
    (k : u D σ (upd H x (.ins C dx ((ks ++ [f]).zip (vs ++ [y]))))) : tSeq (sFld K (tVar 0) tv f) u D σ H :=
  hv _ ⟨.ref x, hσ, x, C, dx, _, rfl, hx, cl, na, by rw [List.length_zip]; omega, by rw [put_snoc hf hl]; exact k⟩
theorem st_new {o : HO} (hσ : σ[0]? = some (some (.ref x))) (hx : H x = some (.ins C dx (ks.zip vs))) (cl : Cls K C) (na : NoAttr K C f) (hf : f ∉ ks) (hl : ks.length = vs.length) (hs : ks.length < 900) (hv : ∀ Q : VK, (∀ p, H p = none → Q (.ref p) (upd H p o)) → tv σ H Q)
    (k : ∀ p, H p = none → u D σ (upd (upd H p o) x (.ins C dx ((ks ++ [f]).zip (vs ++ [V.ref p]))))) : tSeq (sFld K (tVar 0) tv f) u D σ H :=
  hv _ fun p hp => ⟨.ref x, hσ, x, C, dx, _, rfl, by rw [upd_ne (ne_of_none hx hp)]; exact hx, cl, na, by rw [List.length_zip]; omega, by rw [put_snoc hf hl]; exact k p hp⟩
theorem ok_carinit {st : Stmt} {fa : Addr} {fd : FuncData} {N ps : List Str} {k : Nat} (F : Fun K "__init__" "Carried.__init__" st fa fd) (S : FnScope N ps (defScope st)) (hp : ps.length = 4) (hN : N.length = 4) (cl : Cls K C) (na : ∀ k ∈ carK, NoAttr K C k)
    (h : ∀ (cdv : Value) (A : Around) (outer : List Env) (s : Shared) (H : Hp) (E : XK), Room k (A.deeper (envOfC "Carried.__init__" (defScope st) s.heap.objs.size fa cdv)) →
      PSs (cxOf CX0 P w K mg base N "Carried.__init__" (defScope st) fa cdv A outer s H E).nox (defBody st)
       (tSeq (sFld K (tVar 0) (tVar 1) "program") (tSeq (sFld K (tVar 0) (tVar 2) "stand") (tSeq (sFld K (tVar 0) (tVar 3) "houses") (tSeq (sFld K (tVar 0) (tC (.int 0)) "place") (tSeq (sFld K (tVar 0) (tLst tNil) "waiting") (tSeq (sFld K (tVar 0) (tLst tNil) "spoken") (tSeq (sFld K (tVar 0) (tC (.int 0)) "done")
        (tSeq (sFld K (tVar 0) (tC .non) "goal") (tSeq (sFld K (tVar 0) (tC (.bl false)) "is_still") (tSeq (sFld K (tVar 0) tDNewK "fresh") (tSeq (sFld K (tVar 0) (tC (.int 0)) "made") (tSeq (sFld K (tVar 0) tDNewK "absent") tNext))))))))))))) : FnOk P w K mg base CX0 (k + 1) fa fd ps (spCI K C) := by
  refine F.ok S (fun vs H Q E ⟨_, _, _, _, _, _, _, _, e, _⟩ => by rw [e, hp]; rfl) fun cdv A outer s H vs Q E hr ⟨S', x, dx, pv, sv, g, sd, hh, e, hx, rg, rs, q⟩ => ⟨_, h cdv A outer s H E hr, ?_⟩
  subst e
  have hσ : L2.start N [.ref x, pv, sv, .int hh] = [some (.ref x), some pv, some sv, some (.int hh)] := by
    unfold L2.start
    simp [hN]
  rw [hσ]
  refine st_put (ks := []) (vs := []) (y := pv) rfl hx cl (na _ (by decide +kernel)) (by decide +kernel) rfl (by decide) (fun Q q => ⟨pv, rfl, q⟩) ?_
  refine st_put (y := sv) rfl upd_same cl (na _ (by decide +kernel)) (by decide +kernel) rfl (by decide) (fun Q q => ⟨sv, rfl, q⟩) ?_
  refine st_put (y := .int hh) rfl upd_same cl (na _ (by decide +kernel)) (by decide +kernel) rfl (by decide) (fun Q q => ⟨_, rfl, q⟩) ?_
  refine st_put (y := .int 0) rfl upd_same cl (na _ (by decide +kernel)) (by decide +kernel) rfl (by decide) (fun Q q => q) ?_
  refine st_new (o := .lst []) rfl upd_same cl (na _ (by decide +kernel)) (by decide +kernel) rfl (by decide) (fun Q q => ⟨by decide, q⟩) fun w hw => ?_
  refine st_new (o := .lst []) rfl upd_same cl (na _ (by decide +kernel)) (by decide +kernel) rfl (by decide) (fun Q q => ⟨by decide, q⟩) fun s hs => ?_
  refine st_put (y := .int 0) rfl upd_same cl (na _ (by decide +kernel)) (by decide +kernel) rfl (by decide) (fun Q q => q) ?_
  refine st_put (y := .non) rfl upd_same cl (na _ (by decide +kernel)) (by decide +kernel) rfl (by decide) (fun Q q => q) ?_
  refine st_put (y := .bl false) rfl upd_same cl (na _ (by decide +kernel)) (by decide +kernel) rfl (by decide) (fun Q q => q) ?_
  refine st_new (o := .dK []) rfl upd_same cl (na _ (by decide +kernel)) (by decide +kernel) rfl (by decide) (fun Q q => q) fun f hf => ?_
  refine st_put (y := .int 0) rfl upd_same cl (na _ (by decide +kernel)) (by decide +kernel) rfl (by decide) (fun Q q => q) ?_
  refine st_new (o := .dK []) rfl upd_same cl (na _ (by decide +kernel)) (by decide +kernel) rfl (by decide) (fun Q q => q) fun b hb => ?_
  have nw : w ≠ x := fun e => by rw [e, upd_same] at hw; cases hw
  have ns : s ≠ x := fun e => by rw [e, upd_same] at hs; cases hs
  have nf : f ≠ x := fun e => by rw [e, upd_same] at hf; cases hf
  have nb : b ≠ x := fun e => by rw [e, upd_same] at hb; cases hb
  rw [upd_ne nw, upd_ne nw, upd_ne nw, upd_ne nw] at hw
  rw [upd_ne ns] at hs
  have sw : s ≠ w := fun e => by rw [e, upd_same] at hs; cases hs
  rw [upd_ne sw, upd_ne ns, upd_ne ns, upd_ne ns, upd_ne ns] at hs
  rw [upd_ne nf, upd_ne nf, upd_ne nf, upd_ne nf] at hf
  have fs : f ≠ s := fun e => by rw [e, upd_same] at hf; cases hf
  rw [upd_ne fs, upd_ne nf] at hf
  have fw : f ≠ w := fun e => by rw [e, upd_same] at hf; cases hf
  rw [upd_ne fw, upd_ne nf, upd_ne nf, upd_ne nf, upd_ne nf] at hf
  rw [upd_ne nb, upd_ne nb] at hb
  have bf : b ≠ f := fun e => by rw [e, upd_same] at hb; cases hb
  rw [upd_ne bf, upd_ne nb, upd_ne nb, upd_ne nb, upd_ne nb] at hb
  have bs : b ≠ s := fun e => by rw [e, upd_same] at hb; cases hb
  rw [upd_ne bs, upd_ne nb] at hb
  have bw : b ≠ w := fun e => by rw [e, upd_same] at hb; cases hb
  rw [upd_ne bw, upd_ne nb, upd_ne nb, upd_ne nb, upd_ne nb] at hb
  refine q w s f b _ hw hs hf hb ⟨cl, na, ?_, rg, rs, ?_, ?_, ?_, True.intro, ?_, True.intro, sw.symm, bf.symm⟩ fun p o np e => ?_
  · exact upd_same
  · show upd _ x _ w = _
    simp only [upd_ne nw, upd_ne bw.symm, upd_ne fw.symm, upd_ne sw.symm, upd_same]
    rfl
  · show upd _ x _ s = _
    simp only [upd_ne ns, upd_ne bs.symm, upd_ne fs.symm, upd_same]
    rfl
  · show upd _ x _ f = _
    simp only [upd_ne nf, upd_ne bf.symm, upd_same]
  · show upd _ x _ b = _
    simp only [upd_ne nb, upd_same]
  · simp only [upd_ne np, upd_ne (ne_of_none e hb), upd_ne (ne_of_none e hf), upd_ne (ne_of_none e hs), upd_ne (ne_of_none e hw)]
    exact e
end
section
variable {C : Addr} {K : Fg} {B S0 S1 S S' D : Hp} {σ : L2.St} {H H' : Hp} {F : Nat → List Addr} {G G' G1 G2 : List Sl} {i : Nat} {t : TA} {u : TS} {E : Ends} {Ex : XK}
theorem q_makeC (i : Nat) {g : Prog} {st : Stand} {h : Int} (ha : EvA K t G (g, st, h, ()) G1) (hi : G1[i]?.isSome = true) (k : ∀ z : Car C, (∃ a w s f b, z = Car.mk a w s f b g st h 0 [] [] 0 none false Dct.emp 0 Dct.emp) → At K B S0 (u E) (G1.set i (.ow z))) :
    At K B S0 (tSeq (tAsg (tMake C (spCI K C) [] Ex t) (gName i)) u E) G := fun S σ H F kn =>
  ha B S0 S σ H F kn _ fun vs S1 H1 e1 k1 r1 => by
    intro x dx hx hdx nx
    obtain ⟨pv, ws, rfl, rg, sv, ws', rfl, rs, hv, ws'', rfl, rh, rfl⟩ := r1
    rw [show hv = .int h from rh]
    have hH : ∀ p o, H1 p = some o → upd (upd H1 dx (.own x)) x (.ins C dx []) p = some o := fun p o e => by
      rw [upd_ne (ne_of_none e hx), upd_ne (ne_of_none e hdx)]
      exact e
    have back : ∀ p, upd (upd H1 dx (.own x)) x (.ins C dx []) p = none → H1 p = none := fun p e => by
      cases c : H1 p with
      | none => rfl
      | some o => rw [hH p o c] at e; cases e
    refine ⟨S1, x, dx, pv, sv, g, st, h, rfl, upd_same, rg, rs, fun w s f b H' nw ns nf nb c kp => ⟨rfl, ?_⟩⟩
    have hH' : ∀ p o, H1 p = some o → H' p = some o := fun p o e => kp p o (ne_of_none e hx) (hH p o e)
    have gr : Grow S1 H1 S1 H' := ⟨Same.refl _, fun p o e => hH' p o (k1.sub p o e), hH', fun _ _ _ => rfl⟩
    refine k _ ⟨x, w, s, f, b, rfl⟩ S1 _ H' _ ((k1.grow gr).setOwns (v := .ref x) (x := Car.mk (C := C) x w s f b g st h 0 [] [] 0 none false Dct.emp 0 Dct.emp) (ps := [x, w, s, f, b]) ⟨rfl, rfl, dx, pv, sv, [], [], c⟩ hi fun p hp => ?_)
    have hn : H1 p = none := by
      simp only [List.mem_cons, List.mem_nil_iff, or_false] at hp
      rcases hp with e | e | e | e | e <;> rw [e]
      · exact hx
      · exact back _ nw
      · exact back _ ns
      · exact back _ nf
      · exact back _ nb
    obtain ⟨a1, a2, a3⟩ := k1.free hn
    exact ⟨a1, a2, c.some hp, a3⟩
end
end GL
namespace GL
open PySem PySem.Spec PyProof.Rows L2
def spCR {α : Type} [PyA α] (K : Fg) (C : Addr) (R : α → Car C → Prop) (pre : α → Prop) : Sp := fun vs H Q _ => ∃ (S : Hp) (a : α), Same S H ∧ PyA.rep K S vs a ∧ pre a ∧
  ∀ (z : Car C) S' H', R a z → Grow S H S' H' → (∀ p ∈ z.fp, H p = none ∧ S' p = none) → Own.own K S' H' (.ref z.a) z.fp z → Q (.ref z.a) H'
section
variable {P : Program} {w : World} {K : Fg} {mg : Str → Option Value} {base : Heap} {α : Type} [Sls α] {C : Addr}
end
section
variable {C : Addr} {K : Fg} {B S0 S1 S S' D : Hp} {σ : L2.St} {H H' : Hp} {F : Nat → List Addr} {G G' G1 G2 : List Sl} {i j : Nat} {t : TA} {u : TS} {E : Ends} {Ex Ex' : XK} {m : Str}
variable {α β : Type} [PyA α] [Py β] {a : α} {R : α → Car C → Prop} {pre' : α → Prop} {f : Car C → Unit → β × Car C} {pre : Car C → Unit → Prop} {z : Car C}
end
end GL
namespace GL
open PySem PySem.Spec PyProof.Rows L2
instance : Inhabited Dat := ⟨.non⟩
namespace Dat
def isT : Dat → Bool
  | .tup _ => true
  | _ => false
def isL : Dat → Bool
  | .lst _ => true
  | _ => false
def isS : Dat → Bool
  | .str _ => true
  | _ => false
def isBl : Dat → Bool
  | .bl _ => true
  | _ => false
def isI : Dat → Bool
  | .int _ => true
  | .bl _ => true
  | _ => false
def isInt : Dat → Bool
  | .int _ => true
  | _ => false
def toI : Dat → Int
  | .int i => i
  | _ => 0
def items : Dat → List Dat
  | .tup l => l
  | .lst l => l
  | _ => []
end Dat
theorem drep_ints {K : Fg} {S : Hp} : ∀ l : List Int, DRepL K S (l.map V.int) (l.map Dat.int)
  | [] => .nil
  | _ :: l => .cons (.int _) (drep_ints l)
section
variable {K : Fg} {G G1 : List Sl} {ta te : TE}
instance : ToD WRow := ⟨fun r => .tup (.str r.word :: r.nums.map .int), fun ⟨p, h1, h2⟩ => by
  rw [h1]
  exact .tup h2 (.cons (.str _) (drep_ints _))⟩
instance {α β : Type} [Py α] [Py β] [ToD α] [ToD β] : ToD (H2 α β) := ⟨fun x => .lst [ToD.dat x.a, ToD.dat x.b], fun ⟨p, a, b, h1, h2, h3, h4⟩ => by rw [h1]; exact .lst h2 (.cons (ToD.of h3) (.cons (ToD.of h4) .nil))⟩
end
def btwD (d : Dat) (lo hi : Int) : Bool := d.isInt && (decide (lo ≤ d.toI) && decide (d.toI ≤ hi))
def standD (n w m : Int) (d : Dat) : Bool := d.isT && (decide (d.items.length = 2) && (btwD (ix d.items 0) 0 m && ((ix d.items 1).isT && (decide (((ix d.items 1).items.length : Int) = n) && (ix d.items 1).items.all fun x => btwD x 0 (w - 1)))))
end GL
namespace GL
open PySem PySem.Spec PyProof.Rows L2
def LetOk (g : Prog) (l : List Int) : Prop := ∀ x ∈ l, 0 ≤ x ∧ x < g.b
theorem with_ok {g : Prog} {s : Tp Int} {p v : Int} (hl : (s.l.length : Int) = g.a) (hn : ∀ x ∈ s.l, 0 ≤ x ∧ x < g.b) (hp : 0 ≤ p ∧ p < g.a) (hv : 0 ≤ v ∧ v < g.b) : ((withM s p v).l.length : Int) = g.a ∧ ∀ x ∈ (withM s p v).l, 0 ≤ x ∧ x < g.b := by
  rw [with_set (by omega)]
  refine ⟨by dsimp only; rw [List.length_set]; exact hl, fun x hx => ?_⟩
  rcases List.mem_or_eq_of_mem_set hx with h | h
  · exact hn x h
  · rw [h]; exact hv
theorem tick_cases (P : TickR → Prop) {g : Prog} {s : Stand} {letters : List Int} (h1 : rowAtM g s = none → P ⟨s, Str.ofString "ended", none, ⟨[]⟩, ⟨[]⟩⟩) (h2 : ∀ p, rowAtM g s = some (.take p) → letters = [] → P ⟨s, Str.ofString "waits", none, ⟨[]⟩, ⟨[]⟩⟩) (h3 : ∀ r, rowAtM g s = some r → (r.isTake = true → letters ≠ []) → P (doneM g s r letters)) : P (tickM g s letters) := by
  unfold tickM
  cases e : rowAtM g s with
  | none => exact h1 e
  | some r =>
    dsimp only
    split
    · rename_i hc
      obtain ⟨c1, c2⟩ := Bool.and_eq_true_iff.mp hc
      cases r <;> first | exact absurd c1 Bool.false_ne_true | exact h2 _ e (of_decide_eq_true c2)
    · rename_i hc
      exact h3 r e fun ht hl => hc (by rw [ht, hl]; rfl)
theorem tick_ok {g : Prog} {s : Stand} {letters : List Int} (hg : ProgOk g) (hs : StandOk g s) (hl : LetOk g letters) : StandOk g (tickM g s letters).a := by
  refine tick_cases (fun t => StandOk g t.a) (fun _ => hs) (fun _ _ _ => hs) fun r hr ht => ?_
  obtain ⟨h1, h2, h3, h4⟩ := tick_row hg hs hr
  have ha := hs.a0
  have hw := hg.w0
  have key : (0 ≤ dGo s.1 s.2 r ∧ dGo s.1 s.2 r ≤ g.c.l.length) ∧ ((dSh g.b s.2 letters r).l.length : Int) = g.a ∧ ∀ x ∈ (dSh g.b s.2 letters r).l, 0 ≤ x ∧ x < g.b := by
    cases r with
    | set p v => exact ⟨by dsimp only [dGo]; omega, with_ok hs.len hs.nums h4.1 h4.2⟩
    | add p q => exact ⟨by dsimp only [dGo]; omega, with_ok hs.len hs.nums h4.1 ⟨Int.emod_nonneg _ (by omega), Int.emod_lt_of_pos _ (by omega)⟩⟩
    | jump p q =>
      refine ⟨?_, hs.len, hs.nums⟩
      have := h4.2
      dsimp only [dGo]
      split <;> omega
    | say p => exact ⟨by dsimp only [dGo]; omega, hs.len, hs.nums⟩
    | take p =>
      refine ⟨by dsimp only [dGo]; omega, with_ok hs.len hs.nums h4 (hl _ (ix_mem (by decide) ?_))⟩
      have := List.length_pos_iff.mpr (ht rfl)
      omega
    | fin => exact absurd rfl h3
  exact ⟨key.1.1, key.1.2, key.2.1, key.2.2⟩
theorem reads_len (r : WRow) : (readsM r).l.length ≤ 2 := by
  cases r with
  | add p q =>
    show (usrt [p, q]).length ≤ 2
    rw [usrt_two]
    by_cases e : p = q
    · rw [decide_eq_true e, if_pos rfl]; show 1 ≤ 2; decide
    · rw [decide_eq_false e, if_neg (by decide)]; show 2 ≤ 2; decide
  | _ => simp [readsM]
theorem writes_len (r : WRow) : (writesM r).l.length ≤ 1 := by cases r <;> simp [writesM]
theorem tick_rl {g : Prog} {s : Stand} {letters : List Int} : (tickM g s letters).d.l.length ≤ 2 ∧ (tickM g s letters).e.l.length ≤ 1 :=
  tick_cases (fun t => t.d.l.length ≤ 2 ∧ t.e.l.length ≤ 1) (fun _ => by simp) (fun _ _ _ => by simp) fun r _ _ => ⟨reads_len r, writes_len r⟩
end GL
namespace GL
open PySem PySem.Spec PyProof.Rows L2
variable {C : Addr}
structure CarOk (z : Car C) : Prop where
  g : ProgOk z.g
  s : StandOk z.g z.st
  l : LetOk z.g z.wait
  wl : z.wait.length ≤ 100000
  sl : z.said.length ≤ 100000
def lksM (z : Car C) : List Int := match rowAtM z.g z.st with
  | none => []
  | some r => (readsM r).l.filter fun p => (z.absent.get? p).isSome
def wentM (z : Car C) (t : TickR) : Car C := { z with st := t.a, wait := if decide (t.b = Str.ofString "took") = true then z.wait.drop 1 else z.wait, said := if decide (t.b = Str.ofString "said") = true then z.said ++ [t.c.getD default] else z.said, fresh := t.e.l.foldl Dct.del z.fresh, absent := t.e.l.foldl Dct.del z.absent, done := z.done + 1 }
@[irreducible] def tickC (z : Car C) : Tw × Car C :=
  if z.still = true then (⟨Str.ofString "still", []⟩, z)
  else if lksM z ≠ [] then (⟨Str.ofString "lacks", [some (ix (lksM z) 0)]⟩, z)
  else (⟨(tickM z.g z.st z.wait).b, [(tickM z.g z.st z.wait).c]⟩, wentM z (tickM z.g z.st z.wait))
theorem tickC_fp (z : Car C) : Anch.fp (tickC z).2 = Anch.fp z := by
  unfold tickC
  split
  · rfl
  split
  · rfl
  · rfl
@[irreducible] def lfM (z : Car C) : List Int := (rng 0 z.g.a).filter fun p => !(z.fresh.get? p).isSome
@[irreducible] def copyC (z : Car C) (p : Int) : Car C := { z with fresh := z.fresh.put p true, made := z.made + 1 }
@[irreducible] def letterC (z : Car C) (v : Int) : Car C := { z with wait := z.wait ++ [v] }
@[irreducible] def stillC (z : Car C) : Car C := { z with still := true }
@[irreducible] def goesC (z : Car C) : Car C := { z with place := z.goal.getD default, goal := none, still := false }
@[irreducible] def lackC (z : Car C) (l : List Int) : Car C := { z with absent := l.foldl (fun d p => d.put p true) z.absent }
@[irreducible] def bringC (z : Car C) (p : Int) : Car C := { z with absent := z.absent.del p }
@[irreducible] def dropC (z : Car C) : Car C := { z with goal := none, still := false }
def BegR (z : Car C) (h : Int) (z' : Car C) : Prop := ∃ f', z' = { z with f := f', goal := some h, still := false, fresh := Dct.emp, made := 0 }
theorem copy_fp (z : Car C) (p : Int) : Anch.fp (copyC z p) = Anch.fp z := by unfold copyC; rfl
theorem still_fp (z : Car C) : Anch.fp (stillC z) = Anch.fp z := by unfold stillC; rfl
theorem goes_fp (z : Car C) : Anch.fp (goesC z) = Anch.fp z := by unfold goesC; rfl
theorem lack_fp (z : Car C) (l : List Int) : Anch.fp (lackC z l) = Anch.fp z := by unfold lackC; rfl
theorem bring_fp (z : Car C) (p : Int) : Anch.fp (bringC z p) = Anch.fp z := by unfold bringC; rfl
theorem put_len {d : Dct Bool} {k : Int} {x : Bool} : (d.put k x).l.length ≤ d.l.length + 1 := by
  unfold Dct.put
  dsimp only
  split
  · rw [List.length_map]; omega
  · rw [List.length_append]; exact Nat.le_refl _
theorem del_len {d : Dct Bool} {k : Int} : (d.del k).l.length ≤ d.l.length := List.length_filter_le _ _
theorem puts_len : ∀ (l : List Int) (d : Dct Bool), (l.foldl (fun d p => d.put p true) d).l.length ≤ d.l.length + l.length
  | [], d => Nat.le_refl _
  | p :: l, d => by
    have h1 := puts_len l (d.put p true)
    have h2 := put_len (d := d) (k := p) (x := true)
    rw [List.foldl_cons, List.length_cons]
    omega
theorem took_ne2 {g : Prog} {s : Stand} {letters : List Int} (h : decide ((tickM g s letters).b = Str.ofString "took") = true) : letters ≠ [] := by
  refine tick_cases (fun t => decide (t.b = Str.ofString "took") = true → letters ≠ []) (fun _ h => absurd h (by show ¬ decide (Str.ofString "ended" = Str.ofString "took") = true; decide +kernel)) (fun _ _ _ h => absurd h (by show ¬ decide (Str.ofString "waits" = Str.ofString "took") = true; decide +kernel)) (fun r hr ht h => ?_) h
  cases r with
  | take p => exact ht rfl
  | set p v => exact absurd h (by show ¬ decide (Str.ofString "did" = Str.ofString "took") = true; decide +kernel)
  | add p v => exact absurd h (by show ¬ decide (Str.ofString "did" = Str.ofString "took") = true; decide +kernel)
  | jump p v => exact absurd h (by show ¬ decide (Str.ofString "did" = Str.ofString "took") = true; decide +kernel)
  | say p => exact absurd h (by show ¬ decide (Str.ofString "said" = Str.ofString "took") = true; decide +kernel)
  | fin => exact absurd h (by show ¬ decide (Str.ofString "did" = Str.ofString "took") = true; decide +kernel)
theorem said_some {g : Prog} {s : Stand} {letters : List Int} (h : decide ((tickM g s letters).b = Str.ofString "said") = true) : (tickM g s letters).c.isSome = true := by
  refine tick_cases (fun t => decide (t.b = Str.ofString "said") = true → t.c.isSome = true) (fun _ h => absurd h (by show ¬ decide (Str.ofString "ended" = Str.ofString "said") = true; decide +kernel)) (fun _ _ _ h => absurd h (by show ¬ decide (Str.ofString "waits" = Str.ofString "said") = true; decide +kernel)) (fun r hr ht h => ?_) h
  cases r with
  | say p => rfl
  | set p v => exact absurd h (by show ¬ decide (Str.ofString "did" = Str.ofString "said") = true; decide +kernel)
  | add p v => exact absurd h (by show ¬ decide (Str.ofString "did" = Str.ofString "said") = true; decide +kernel)
  | jump p v => exact absurd h (by show ¬ decide (Str.ofString "did" = Str.ofString "said") = true; decide +kernel)
  | take p => rfl
  | fin => exact absurd h (by show ¬ decide (Str.ofString "did" = Str.ofString "said") = true; decide +kernel)
theorem lks_none {z : Car C} (h : (rowAtM z.g z.st).isSome = false) : lksM z = [] := by
  unfold lksM
  cases e : rowAtM z.g z.st with
  | none => rfl
  | some r => rw [e] at h; cases h
theorem lack_some {z : Car C} {r : WRow} (h : rowAtM z.g z.st = some r) : lksM z = (readsM r).l.filter fun p => (z.absent.get? p).isSome := by
  unfold lksM
  rw [h]
end GL
namespace GL
open PySem PySem.Spec PyProof.Rows L2
variable {C : Addr}
def popBoth (z : Car C) (p : Int) : Car C := { z with fresh := z.fresh.del p, absent := z.absent.del p }
theorem popBoth_fold : ∀ (l : List Int) (z : Car C), l.foldl popBoth z = { z with fresh := l.foldl Dct.del z.fresh, absent := l.foldl Dct.del z.absent }
  | [], z => rfl
  | p :: l, z => by rw [List.foldl_cons, popBoth_fold l]; rfl
theorem lackC_snoc (z : Car C) (l : List Int) (p : Int) : lackC z (l ++ [p]) = { lackC z l with absent := (lackC z l).absent.put p true } := by
  unfold lackC
  rw [List.foldl_append]
  rfl
theorem lackC_len (z : Car C) (l : List Int) : (lackC z l).absent.l.length ≤ z.absent.l.length + l.length := by
  unfold lackC
  exact puts_len l z.absent
theorem clf_len (z : Car C) : (lfM z).length ≤ z.g.a.toNat := by
  unfold lfM
  refine Nat.le_trans (List.length_filter_le _ _) ?_
  rw [len_rng]
  omega
theorem lackC_goal (z : Car C) (l : List Int) : (lackC z l).goal = z.goal ∧ (lackC z l).made = z.made := by unfold lackC; exact ⟨rfl, rfl⟩
theorem tick_end {z : Car C} {z' : Car C} {w : Tw} (h0 : z.still = false) (h1 : lksM z = []) (hw : w = ⟨(tickM z.g z.st z.wait).b, [(tickM z.g z.st z.wait).c]⟩) (hz : z' = wentM z (tickM z.g z.st z.wait)) : (w, z') = tickC z := by
  unfold tickC
  rw [if_neg (by rw [h0]; decide), if_neg (by simp [h1]), hw, hz]
end GL
namespace GL
open PySem PySem.Spec PyProof.Rows L2
variable {C : Addr}
theorem get_os {o : Option WRow} (h : o.isSome = true) : o = some (o.getD default) := by
  cases o with
  | none => cases h
  | some r => rfl
theorem tick_lacks {z : Car C} {l : List Int} (h0 : z.still = false) (h1 : l = lksM z) (h2 : l ≠ []) : ((⟨Str.ofString "lacks", [some (ix l 0)]⟩, z) : Tw × Car C) = tickC z := by
  unfold tickC
  rw [if_neg (by rw [h0]; decide), ← h1, if_pos h2]
end GL
namespace GL
open PySem PySem.Spec PyProof.Rows L2
variable {C : Addr}
theorem went_eq {z z2 z4 z6 z9 : Car C} {t : TickR} (h2 : z2 = { z with st := t.a }) (h4 : z4 = if decide (t.b = Str.ofString "took") = true then ({ z2 with wait := z2.wait.drop 1 } : Car C) else z2) (h6 : z6 = if decide (t.b = Str.ofString "said") = true then ({ z4 with said := z4.said ++ [t.c.getD default] } : Car C) else z4)
    (h9 : z9 = { (t.e.l.foldl popBoth z6) with done := (t.e.l.foldl popBoth z6).done + 1 }) : z9 = wentM z t := by
  rw [h9, popBoth_fold, h6, h4, h2]
  unfold wentM
  generalize decide (t.b = Str.ofString "took") = b1
  generalize decide (t.b = Str.ofString "said") = b2
  cases b1 <;> cases b2 <;> rfl
end GL
namespace GL
open PySem PySem.Spec PyProof.Rows L2
theorem rev_indU {α : Type} {P : List α → Prop} (h0 : P []) (hs : ∀ xs x, P xs → P (xs ++ [x])) (xs : List α) : P xs := by
  have h : ∀ ys : List α, P ys.reverse := fun ys => by
    induction ys with
    | nil => exact h0
    | cons y ys ih => rw [List.reverse_cons]; exact hs _ _ ih
  have := h xs.reverse
  rwa [List.reverse_reverse] at this
theorem ix_get {α : Type} [Inhabited α] {xs : List α} {i : Int} (h0 : 0 ≤ i) (h : i.toNat < xs.length) : ix xs i = xs[i.toNat] := by
  have e := ix_at (xs := xs) h0 (by omega)
  rw [List.getElem?_eq_getElem h] at e
  exact (Option.some.inj e).symm
abbrev Lets := List (Int × Int)
structure LetsOk (g : Prog) (l : Lets) : Prop where
  srt : (l.map (·.1)).Pairwise (· ≤ ·)
  nums : ∀ x ∈ l, 0 ≤ x.2 ∧ x.2 < g.b
  len : l.length ≤ 1000
def availM (l : Lets) (now : Int) : List Int := (l.filter (fun x => decide (x.1 ≤ now))).map (·.2)
abbrev Said := List (Int × Option Int)
abbrev Tou := List (Tp Int × Tp Int)
abbrev RunS := Int × Stand × Said × Tou
@[irreducible] def runStep (g : Prog) (l : Lets) (st : RunS) (now : Int) : RunS :=
  let t := tickM g st.2.1 ((availM l now).drop st.1.toNat)
  (st.1 + (if decide (t.b = Str.ofString "took") = true then 1 else 0), t.a, if decide (t.b = Str.ofString "said") = true then st.2.2.1 ++ [(now, t.c)] else st.2.2.1, st.2.2.2 ++ [(t.d, t.e)])
@[irreducible] def runF (g : Prog) (s : Stand) (l : Lets) (xs : List Int) : RunS := xs.foldl (runStep g l) (0, s, [], [])
@[irreducible] def runM (g : Prog) (s : Stand) (l : Lets) (many : Int) : T3 Stand Said Tou := ⟨(runF g s l (rng 0 many)).2.1, (runF g s l (rng 0 many)).2.2.1, (runF g s l (rng 0 many)).2.2.2⟩
theorem run_nil (g : Prog) (s : Stand) (l : Lets) : runF g s l [] = (0, s, [], []) := by unfold runF; rfl
theorem run_snoc (g : Prog) (s : Stand) (l : Lets) (xs : List Int) (n : Int) : runF g s l (xs ++ [n]) = runStep g l (runF g s l xs) n := by
  unfold runF; rw [List.foldl_append]; rfl
theorem avail_ok {g : Prog} {l : Lets} (h : LetsOk g l) (now : Int) (u : Nat) : LetOk g ((availM l now).drop u) ∧ ((availM l now).drop u).length ≤ 100000 := by
  refine ⟨fun x hx => ?_, ?_⟩
  · obtain ⟨y, hy, e⟩ := List.mem_map.mp (List.mem_of_mem_drop hx)
    rw [← e]
    exact h.nums y (List.mem_filter.mp hy).1
  · have := h.len
    have := List.length_filter_le (fun x : Int × Int => decide (x.1 ≤ now)) l
    rw [List.length_drop]
    unfold availM
    rw [List.length_map]
    omega
theorem runStep_stand {g : Prog} {l : Lets} {st : RunS} {now : Int} : (runStep g l st now).2.1 = (tickM g st.2.1 ((availM l now).drop st.1.toNat)).a := by unfold runStep; rfl
theorem runStep_used {g : Prog} {l : Lets} {st : RunS} {now : Int} : (runStep g l st now).1 = st.1 + (if decide ((tickM g st.2.1 ((availM l now).drop st.1.toNat)).b = Str.ofString "took") = true then 1 else 0) := by unfold runStep; rfl
theorem run_ok {g : Prog} {s : Stand} {l : Lets} (hg : ProgOk g) (hs : StandOk g s) (hl : LetsOk g l) (xs : List Int) : StandOk g (runF g s l xs).2.1 ∧ 0 ≤ (runF g s l xs).1 := by
  refine rev_indU (P := fun xs => StandOk g (runF g s l xs).2.1 ∧ 0 ≤ (runF g s l xs).1) ?_ (fun xs n ih => ?_) xs
  · rw [run_nil]; exact ⟨hs, Int.le_refl _⟩
  · rw [run_snoc, runStep_stand, runStep_used]
    refine ⟨tick_ok hg ih.1 (avail_ok hl n _).1, ?_⟩
    have := ih.2
    split <;> omega
theorem run_len {g : Prog} {s : Stand} {l : Lets} (xs : List Int) : (runF g s l xs).2.2.2.length = xs.length ∧ (runF g s l xs).2.2.1.length ≤ xs.length := by
  refine rev_indU (P := fun xs => (runF g s l xs).2.2.2.length = xs.length ∧ (runF g s l xs).2.2.1.length ≤ xs.length) ?_ (fun xs n ih => ?_) xs
  · rw [run_nil]; simp
  · rw [run_snoc]
    unfold runStep
    dsimp only
    rw [List.length_append, List.length_append, ih.1]
    refine ⟨rfl, ?_⟩
    have := ih.2
    split
    · rw [List.length_append]; simp; omega
    · simp; omega
theorem run_law {g : Prog} {s : Stand} {l : Lets} {pre : List Int} {now used : Int} {stand : Stand} {said : Said} {touched : Tou} {t : TickR} (hI : (used, stand, said, touched) = runF g s l pre) (ht : t = tickM g stand ((availM l now).drop used.toNat)) :
    (used + (if decide (t.b = Str.ofString "took") = true then 1 else 0), t.a, (if decide (t.b = Str.ofString "said") = true then said ++ [(now, t.c)] else said), touched ++ [(t.d, t.e)]) = runF g s l (pre ++ [now]) := by
  rw [run_snoc, ← hI, ht]
  unfold runStep
  rfl
structure WgI (l : Lets) (used now : Int) (st : List Int × Int) : Prop where
  c0 : 0 ≤ st.2
  c1 : st.2 ≤ l.length
  u1 : used ≤ st.2
  w : st.1 = ((l.take st.2.toNat).map (·.2)).drop used.toNat
  le : ∀ x ∈ l.take st.2.toNat, x.1 ≤ now
theorem WgI.step {l : Lets} {used now : Int} {wt : List Int} {come : Int} (hu : 0 ≤ used) (h : WgI l used now (wt, come)) (hc : come < l.length) (hn : (ix l come).1 ≤ now) : WgI l used now (wt ++ [(ix l come).2], come + 1) := by
  obtain ⟨c0, c1, u1, w, le⟩ := h
  dsimp only at *
  have hlt : come.toNat < l.length := by omega
  have e : (come + 1).toNat = come.toNat + 1 := by omega
  have ei : ix l come = l[come.toNat] := ix_get c0 hlt
  have et : l.take (come.toNat + 1) = l.take come.toNat ++ [ix l come] := by rw [ei, List.take_succ_eq_append_getElem hlt]
  refine ⟨by dsimp only; omega, by dsimp only; omega, by dsimp only; omega, ?_, ?_⟩
  · dsimp only
    rw [e, et, List.map_append, List.drop_append_of_le_length (by rw [List.length_map, List.length_take]; omega), ← w]
    rfl
  · dsimp only
    rw [e, et]
    intro x hx
    rcases List.mem_append.mp hx with q | q
    · exact le x q
    · rw [List.mem_singleton.mp q]; exact hn
theorem filter_take {l : Lets} {now : Int} {k : Nat} (hs : (l.map (·.1)).Pairwise (· ≤ ·)) (h1 : ∀ x ∈ l.take k, x.1 ≤ now) (h2 : ∀ x, l[k]? = some x → now < x.1) : l.filter (fun x => decide (x.1 ≤ now)) = l.take k := by
  induction l generalizing k with
  | nil => simp
  | cons y l ih =>
    rw [List.map_cons, List.pairwise_cons] at hs
    cases k with
    | zero =>
      have h := h2 y rfl
      rw [List.take_zero, List.filter_eq_nil_iff]
      intro x hx
      rcases List.mem_cons.mp hx with e | e
      · rw [e]; simp; omega
      · have := hs.1 x.1 (List.mem_map.mpr ⟨x, e, rfl⟩)
        simp
        omega
    | succ k =>
      have h := h1 y (by simp)
      rw [List.take_succ_cons, List.filter_cons, if_pos (by simp; exact h), ih hs.2 (fun x hx => h1 x (by rw [List.take_succ_cons]; exact List.mem_cons_of_mem _ hx)) (fun x hx => h2 x (by simpa using hx))]
theorem WgI.done {l : Lets} {used now : Int} {wt : List Int} {come : Int} (hs : (l.map (·.1)).Pairwise (· ≤ ·)) (h : WgI l used now (wt, come)) (hc : (decide (come < (l.length : Int)) && decide ((ix l come).1 ≤ now)) = false) : wt = (availM l now).drop used.toNat ∧ l.take come.toNat = l.filter (fun x => decide (x.1 ≤ now)) := by
  obtain ⟨c0, c1, u1, w, le⟩ := h
  dsimp only at *
  have e := filter_take (k := come.toNat) hs le fun x hx => by
    obtain ⟨hlt, e⟩ := List.getElem?_eq_some_iff.mp hx
    have ei : ix l come = l[come.toNat] := ix_get c0 hlt
    rw [ei, e] at hc
    rcases Bool.and_eq_false_iff.mp hc with q | q
    · have := of_decide_eq_false q; omega
    · have := of_decide_eq_false q; omega
  exact ⟨by unfold availM; rw [e]; exact w, e.symm⟩
structure GonI (g : Prog) (s : Stand) (l : Lets) (pre : List Int) (st : List Int × Said × Tou × Int × Stand) : Prop where
  said : st.2.1 = (runF g s l pre).2.2.1
  fnd : st.2.2.1 = (runF g s l pre).2.2.2
  stand : st.2.2.2.2 = (runF g s l pre).2.1
  wg : ∀ now, (∀ p ∈ pre, p < now) → WgI l (runF g s l pre).1 now (st.1, st.2.2.2.1)
theorem GonI.start (g : Prog) (s : Stand) (l : Lets) : GonI g s l [] ([], [], [], 0, s) :=
  ⟨by rw [run_nil], by rw [run_nil], by rw [run_nil], fun now _ => by rw [run_nil]; exact ⟨Int.le_refl _, by dsimp only; omega, Int.le_refl _, by simp, by simp⟩⟩
theorem took_ne {g : Prog} {s : Stand} {l : List Int} (h : decide ((tickM g s l).b = Str.ofString "took") = true) : l ≠ [] := by
  revert h
  refine tick_cases (fun t => decide (t.b = Str.ofString "took") = true → l ≠ []) (fun _ h => ?_) (fun _ _ _ h => ?_) (fun r _ ht h => ?_)
  · exact absurd (of_decide_eq_true h) (show ¬ Str.ofString "ended" = Str.ofString "took" by decide +kernel)
  · exact absurd (of_decide_eq_true h) (show ¬ Str.ofString "waits" = Str.ofString "took" by decide +kernel)
  · have h' : dWo r = Str.ofString "took" := of_decide_eq_true h
    cases r with
    | take p => exact ht rfl
    | say p => exact absurd h' (show ¬ Str.ofString "said" = Str.ofString "took" by decide +kernel)
    | _ => exact absurd h' (show ¬ Str.ofString "did" = Str.ofString "took" by decide +kernel)
theorem GonI.step {g : Prog} {s : Stand} {l : Lets} {pre post : List Int} {now many : Int} {wt0 wt : List Int} {said : Said} {fnd : Tou} {come0 come : Int} {stand : Stand} {t : TickR} (hg : ProgOk g) (hs : StandOk g s) (hl : LetsOk g l) (ex : pre ++ now :: post = rng 0 many)
    (h : GonI g s l pre (wt0, said, fnd, come0, stand)) (hw : WgI l (runF g s l pre).1 now (wt, come)) (he : wt = (availM l now).drop (runF g s l pre).1.toNat) (ht : t = tickM g stand wt) :
    GonI g s l (pre ++ [now]) ((if decide (t.b = Str.ofString "took") = true then wt.drop 1 else wt), (if decide (t.b = Str.ofString "said") = true then said ++ [(now, t.c)] else said), fnd ++ [(t.d, t.e)], come, t.a) := by
  obtain ⟨h1, h2, h3, h4⟩ := h
  dsimp only at h1 h2 h3
  have hu := (run_ok hg hs hl pre).2
  have hr := run_law (s := s) (pre := pre) (now := now) (t := t) (used := (runF g s l pre).1) (stand := stand) (said := said) (touched := fnd) (by rw [h1, h2, h3]) (by rw [ht, he])
  refine ⟨by rw [← hr], by rw [← hr], by rw [← hr], fun now' hn' => ?_⟩
  have hn : now < now' := hn' now (by simp)
  rw [← hr]
  obtain ⟨c0, c1, u1, w, le⟩ := hw
  dsimp only at c0 c1 u1 w le ⊢
  have lt : ((l.take come.toNat).map (fun x : Int × Int => x.2)).length = come.toNat := by rw [List.length_map, List.length_take]; omega
  by_cases hk : decide (t.b = Str.ofString "took") = true
  · have hne := took_ne (by rw [← ht]; exact hk)
    have : (runF g s l pre).1.toNat < come.toNat := by
      have := List.length_pos_iff.mpr hne
      rw [w, List.length_drop, lt] at this
      omega
    rw [if_pos hk, if_pos hk]
    refine ⟨c0, c1, by dsimp only; omega, ?_, fun x hx => by have := le x hx; omega⟩
    dsimp only
    rw [w, List.drop_drop]
    congr 1
    omega
  · rw [if_neg hk, if_neg hk]
    exact ⟨c0, c1, by dsimp only; omega, by dsimp only; rw [Int.add_zero]; exact w, fun x hx => by have := le x hx; omega⟩
theorem runM_gon {g : Prog} {s : Stand} {l : Lets} {many : Int} {wt : List Int} {said : Said} {fnd : Tou} {come : Int} {stand : Stand} (h : GonI g s l (rng 0 many) (wt, said, fnd, come, stand)) : (⟨stand, said, fnd⟩ : T3 Stand Said Tou) = runM g s l many := by
  obtain ⟨h1, h2, h3, -⟩ := h
  dsimp only at h1 h2 h3
  unfold runM; rw [h1, h2, h3]
theorem tou_len {g : Prog} {s : Stand} {l : Lets} (xs : List Int) : ∀ x ∈ (runF g s l xs).2.2.2, x.1.l.length ≤ 2 ∧ x.2.l.length ≤ 1 := by
  refine rev_indU (P := fun xs => ∀ x ∈ (runF g s l xs).2.2.2, x.1.l.length ≤ 2 ∧ x.2.l.length ≤ 1) ?_ (fun xs n ih => ?_) xs
  · rw [run_nil]; intro x hx; simp at hx
  · rw [run_snoc]
    unfold runStep
    intro x hx
    rcases List.mem_append.mp hx with q | q
    · exact ih x q
    · rw [List.mem_singleton.mp q]; exact tick_rl
end GL
namespace GL
open PySem PySem.Spec PyProof.Rows L2
abbrev RS := List (Int × Tp Int) × Dct Int × Int × List Int
abbrev RR := T3 (List (Int × Tp Int)) Int (Tp Int)
def rdC (most sl : Int) (s : RS) : Bool := !decide (s.2.2.2 = []) && (decide ((s.1.length : Int) < most) && (decide (s.1 = []) || decide (sl < (s.2.2.2.length : Int))))
def rdCop (b tick : Int) (c : Dct Int) (ps : Int × Int) : Dct Int := c.put ps.2 (tick + ps.1 / b)
def rdDue (n : Int) (trace : List (Tp Int)) (copied : Dct Int) (tick : Int) : List Int := ((rng 0 n).filter fun x => ((writtenIn trace 0 tick).get? x).isSome && decide (dix copied x ≤ dix (writtenIn trace 0 tick) x)).map fun x => x
def rdN (n : Int) (trace : List (Tp Int)) (b : Int) (s : RS) : RS :=
  (s.1 ++ [(s.2.2.1, ⟨s.2.2.2⟩)], (enumI s.2.2.2).foldl (rdCop b s.2.2.1) s.2.1, s.2.2.1 + ((s.2.2.2.length : Int) + b - 1) / b, rdDue n trace ((enumI s.2.2.2).foldl (rdCop b s.2.2.1) s.2.1) (s.2.2.1 + ((s.2.2.2.length : Int) + b - 1) / b))
def rdB (n : Int) (trace : List (Tp Int)) (b : Int) (s : RS) : Fl RS RR := .nx (rdN n trace b s)
def rdK (s : RS) : RR := ⟨s.1, s.2.2.1, ⟨s.2.2.2⟩⟩
@[irreducible] def roundsM (n : Int) (trace : List (Tp Int)) (b sl most : Int) : RR := whl (rdC most sl) (rdB n trace b) rdK most.toNat ([], Dct.emp, 0, rng 0 n)
structure RdI (n b most : Int) (s : RS) : Prop where
  due : ∀ x ∈ s.2.2.2, 0 ≤ x ∧ x < n
  len : (s.2.2.2.length : Int) ≤ n
  cov : ∀ x, 0 ≤ x → x < n → (s.2.1.get? x).isSome = true ∨ x ∈ s.2.2.2
  cok : s.2.1.Ok 1000
  t0 : 0 ≤ s.2.2.1
  t1 : s.2.2.1 ≤ 2000 * (s.1.length : Int)
structure RdP (n : Int) (trace : List (Tp Int)) (b most : Int) : Prop where
  n0 : 0 ≤ n
  n1 : n ≤ 1000
  tr : TrOk trace
  b0 : 1 ≤ b
  b1 : b ≤ 1000
  m0 : 0 ≤ most
  m1 : most ≤ 1000
theorem rdC_lt {most sl : Int} {s : RS} (h : rdC most sl s = true) : (s.1.length : Int) < most := by
  unfold rdC at h
  simp only [Bool.and_eq_true, decide_eq_true_eq] at h
  exact h.2.1
theorem cop_ok {b tick : Int} {l : List (Int × Int)} (hl : ∀ p ∈ l, 0 ≤ p.2 ∧ p.2 < 1000) : ∀ {d : Dct Int}, d.Ok 1000 → (l.foldl (rdCop b tick) d).Ok 1000 := by
  induction l with
  | nil => intro d h; exact h
  | cons p l ih =>
    intro d h
    exact ih (fun q hq => hl q (List.mem_cons_of_mem _ hq)) (h.put _ (hl p List.mem_cons_self))
theorem cop_keep {b tick x : Int} {l : List (Int × Int)} : ∀ {d : Dct Int}, (d.get? x).isSome = true → ((l.foldl (rdCop b tick) d).get? x).isSome = true := by
  induction l with
  | nil => intro d h; exact h
  | cons p l ih =>
    intro d h
    refine ih ?_
    unfold rdCop
    rw [Dct.get?_put]
    split
    · rfl
    · exact h
theorem cop_has {b tick x : Int} {l : List (Int × Int)} : ∀ {d : Dct Int}, x ∈ l.map (·.2) → ((l.foldl (rdCop b tick) d).get? x).isSome = true := by
  induction l with
  | nil => intro d h; simp at h
  | cons p l ih =>
    intro d h
    rw [List.map_cons, List.mem_cons] at h
    rcases h with h | h
    · refine cop_keep (d := rdCop b tick d p) ?_
      unfold rdCop
      rw [Dct.get?_put, if_pos h]
      rfl
    · exact ih h
theorem enumI_snd {α : Type} (xs : List α) : (enumI xs).map (·.2) = xs := by
  unfold enumI
  rw [List.map_map]
  show List.map (fun p => p.1) xs.zipIdx = xs
  exact List.zipIdx_map_fst 0 xs
theorem enumI_fst {α : Type} {xs : List α} {p : Int × α} (h : p ∈ enumI xs) : p.2 ∈ xs := List.mem_of_getElem? (mem_enumI.mp h).2
theorem RdI.copOk {n b most : Int} {s : RS} (I : RdI n b most s) (hn : n ≤ 1000) {pre : List (Int × Int)} (h : ∀ p ∈ pre, p ∈ enumI s.2.2.2) : (pre.foldl (rdCop b s.2.2.1) s.2.1).Ok 1000 :=
  cop_ok (fun p hp => by have := I.due p.2 (enumI_fst (h p hp)); omega) I.cok
theorem RdI.covered {n b most : Int} {s : RS} (I : RdI n b most s) {x : Int} (h0 : 0 ≤ x) (h1 : x < n) : (((enumI s.2.2.2).foldl (rdCop b s.2.2.1) s.2.1).get? x).isSome = true := by
  rcases I.cov x h0 h1 with h | h
  · exact cop_keep h
  · exact cop_has (by rw [enumI_snd]; exact h)
theorem due_mem {n tick : Int} {trace : List (Tp Int)} {c : Dct Int} {x : Int} (h : x ∈ rdDue n trace c tick) : 0 ≤ x ∧ x < n := by
  unfold rdDue at h
  rw [List.map_id'] at h
  exact mem_rng.mp (List.mem_filter.mp h).1
theorem div_bound {l b : Int} (hb : 1 ≤ b) (hl : 0 ≤ l) : 0 ≤ (l + b - 1) / b ∧ (l + b - 1) / b ≤ l := by
  refine ⟨Int.ediv_nonneg (by omega) (by omega), ?_⟩
  have h : (l + b - 1) / b < l + 1 := by
    apply Int.ediv_lt_of_lt_mul (by omega)
    have : l * b ≥ l := by
      have := Int.mul_le_mul_of_nonneg_left hb hl
      omega
    rw [Int.add_mul]
    omega
  omega
theorem RdI.next {n b most : Int} {trace : List (Tp Int)} {s : RS} (P : RdP n trace b most) (I : RdI n b most s) : RdI n b most (rdN n trace b s) := by
  have hb := div_bound (l := (s.2.2.2.length : Int)) P.b0 (by omega)
  refine ⟨fun x hx => due_mem hx, ?_, fun x h0 h1 => .inl (I.covered h0 h1), I.copOk P.n1 fun _ h => h, ?_, ?_⟩
  · show ((rdDue n trace _ _).length : Int) ≤ n
    unfold rdDue
    rw [List.length_map]
    have h1 := List.length_filter_le (fun x => ((writtenIn trace 0 (s.2.2.1 + ((s.2.2.2.length : Int) + b - 1) / b)).get? x).isSome && decide (dix ((enumI s.2.2.2).foldl (rdCop b s.2.2.1) s.2.1) x ≤ dix (writtenIn trace 0 (s.2.2.1 + ((s.2.2.2.length : Int) + b - 1) / b)) x)) (rng 0 n)
    rw [len_rng] at h1
    have := P.n0
    omega
  · show 0 ≤ s.2.2.1 + ((s.2.2.2.length : Int) + b - 1) / b
    have := I.t0
    omega
  · show s.2.2.1 + ((s.2.2.2.length : Int) + b - 1) / b ≤ 2000 * ((s.1 ++ [(s.2.2.1, (⟨s.2.2.2⟩ : Tp Int))]).length : Int)
    rw [List.length_append]
    have h1 := I.t1
    have h2 := I.len
    have h3 := P.n1
    simp only [List.length_singleton]
    omega
theorem RdI.start {n b most : Int} (hn : 0 ≤ n) : RdI n b most ([], Dct.emp, 0, rng 0 n) :=
  ⟨fun x hx => mem_rng.mp hx, by show ((rng 0 n).length : Int) ≤ n; rw [len_rng]; omega, fun x h0 h1 => .inr (mem_rng.mpr ⟨h0, h1⟩), Dct.Ok.emp, Int.le_refl _, by show (0 : Int) ≤ 2000 * (0 : Int); omega⟩
end GL
namespace GL
open PySem PySem.Spec PyProof.Rows L2
def lastW (trace : List (Tp Int)) (stop s : Int) : Int := (lastN trace stop.toNat s).getD (-1)
@[irreducible] def lastsM (n : Int) (trace : List (Tp Int)) (stop : Int) : List Int := (rng 0 n).map fun x => lastW trace stop x
@[irreducible] def lackM (lasts : List Int) (b stop t : Int) : Int := ((lasts.filter fun x => decide (t ≤ x)).length : Int) - b * (stop - t - 1)
@[irreducible] def barsM (n : Int) (trace : List (Tp Int)) (b s stop t : Int) : Bool := if -1 ≤ t ∧ t < stop then decide (s < lackM (lastsM n trace stop) b stop t) else false
def lawLastS (trail : List (Tp Int)) (sheet : Int) (found beat : Int) : Int := if decide (sheet ∈ (ix trail beat).l) = true then beat else found
end GL
namespace GL
open PySem PySem.Spec PyProof.Rows L2
def lsStep (ls : List Int) (b stop : Int) (s : Int × Option Int) (t : Int) : Int × Option Int :=
  if decide (t < stop) && decide (s.1 < lackM ls b stop t) then (lackM ls b stop t, some t) else s
def lsFold (ls : List Int) (b stop : Int) : Int × Option Int := (usrt ls).foldl (lsStep ls b stop) (0, none)
@[irreducible] def leastM (n : Int) (trace : List (Tp Int)) (b stop : Int) : Int × Option Int := lsFold (lastsM n trace stop) b stop
@[irreducible] def lawLeastM (n : Int) (trace : List (Tp Int)) (b stop : Int) : Int := maxL ([0] ++ (rng (-1) stop).map fun t => lackM (lastsM n trace stop) b stop t)
structure LsI (ls : List Int) (b stop : Int) (xs : List Int) (s : Int × Option Int) : Prop where
  nn : 0 ≤ s.1
  all : ∀ t ∈ xs, t < stop → lackM ls b stop t ≤ s.1
  nil : s.1 = 0 ↔ s.2 = none
  at_ : ∀ t, s.2 = some t → t ∈ xs ∧ t < stop ∧ lackM ls b stop t = s.1
end GL
namespace GL
open PySem PySem.Spec PyProof.Rows L2
def inT (stop : Int) (t : Int) : Bool := decide (0 ≤ t) && decide (t < stop)
def copStep (stop : Int) (d : Dct Int) (p : Int × Int) : Dct Int := if inT stop p.1 = true then d.put p.2 (max p.1 ((d.get? p.2).getD p.1)) else d
@[irreducible] def copM (copies : List (Int × Int)) (stop : Int) : Dct Int := copies.foldl (copStep stop) Dct.emp
@[irreducible] def leftM (n : Int) (trace : List (Tp Int)) (plan : List (Int × Int) × Int) : List Int := (rng 0 n).filter fun x => !((copM plan.1 plan.2).get? x).isSome || decide (dix (copM plan.1 plan.2) x ≤ ((writtenIn trace 0 plan.2).get? x).getD (-1))
def tks (copies : List (Int × Int)) (stop x : Int) : List Int := (copies.filter fun p => decide (p.2 = x) && inT stop p.1).map (·.1)
theorem lastG (trace : List (Tp Int)) (stop x : Int) : ((writtenIn trace 0 stop).get? x).getD (-1) = lastW trace stop x := by
  unfold lastW
  rw [writtenIn_get]
theorem maxL_snoc {l : List Int} (h : l ≠ []) (x : Int) : maxL (l ++ [x]) = max (maxL l) x := by
  cases l with
  | nil => exact absurd rfl h
  | cons a l =>
    show (l ++ [x]).foldl max a = max (l.foldl max a) x
    rw [List.foldl_append]
    rfl
theorem tks_snoc (copies : List (Int × Int)) (stop x : Int) (p : Int × Int) : tks (copies ++ [p]) stop x = if (decide (p.2 = x) && inT stop p.1) = true then tks copies stop x ++ [p.1] else tks copies stop x := by
  unfold tks
  rw [List.filter_append, List.map_append, List.filter_cons]
  split
  · rfl
  · simp
theorem rev_ind {δ : Type} {P : List δ → Prop} (h0 : P []) (h1 : ∀ l x, P l → P (l ++ [x])) (l : List δ) : P l := by
  have : ∀ l : List δ, P l.reverse := by
    intro l
    induction l with
    | nil => exact h0
    | cons x l ih => rw [List.reverse_cons]; exact h1 _ _ ih
  have q := this l.reverse
  rw [List.reverse_reverse] at q
  exact q
theorem cop_get (stop x : Int) (copies : List (Int × Int)) : (copM copies stop).get? x = if tks copies stop x = [] then none else some (maxL (tks copies stop x)) := by
  unfold copM
  refine rev_ind (P := fun copies => (copies.foldl (copStep stop) Dct.emp).get? x = if tks copies stop x = [] then none else some (maxL (tks copies stop x))) rfl (fun l p ih => ?_) copies
  rw [List.foldl_append, List.foldl_cons, List.foldl_nil, tks_snoc]
  generalize l.foldl (copStep stop) Dct.emp = d at ih ⊢
  unfold copStep
  by_cases h1 : inT stop p.1 = true
  · rw [if_pos h1, Dct.get?_put, h1, Bool.and_true]
    by_cases h2 : p.2 = x
    · rw [if_pos h2.symm, decide_eq_true h2, if_pos rfl, h2, ih]
      by_cases h3 : tks l stop x = []
      · rw [if_pos h3, h3, if_neg (by simp)]
        simp [maxL]
      · rw [if_neg h3, if_neg (by simp), maxL_snoc h3, Option.getD_some, Int.max_comm]
    · rw [if_neg (fun e => h2 e.symm), decide_eq_false h2, if_neg Bool.false_ne_true]
      exact ih
  · rw [if_neg h1, show (decide (p.2 = x) && inT stop p.1) = false by rw [Bool.eq_false_iff.mpr h1, Bool.and_false], if_neg Bool.false_ne_true]
    exact ih
def lfT (trace : List (Tp Int)) (copies : List (Int × Int)) (stop x : Int) : Bool := decide (tks copies stop x = []) || decide (maxL (tks copies stop x) ≤ lastW trace stop x)
theorem left_eq (n : Int) (trace : List (Tp Int)) (plan : List (Int × Int) × Int) : leftM n trace plan = (rng 0 n).filter (lfT trace plan.1 plan.2) := by
  unfold leftM
  apply List.filter_congr
  intro x _
  unfold lfT
  rw [lastG, cop_get]
  by_cases h : tks plan.1 plan.2 x = []
  · rw [if_pos h, decide_eq_true h]; rfl
  · rw [if_neg h, decide_eq_false h]
    have e : dix (copM plan.1 plan.2) x = maxL (tks plan.1 plan.2 x) := dix_of (by rw [cop_get, if_neg h])
    rw [e]
    rfl
def lfStep (trace : List (Tp Int)) (plan : List (Int × Int) × Int) (f : List Int) (x : Int) : List Int := if lfT trace plan.1 plan.2 x = true then f ++ [x] else f
end GL
namespace GL
open PySem PySem.Spec PyProof.Rows L2
@[irreducible] def dueM (lasts : List Int) (m : Int) : List Int := cutL ((srt2 ((enumI lasts).map fun x => (x.2, x.1))).map fun x => x.2) none (some m)
@[irreducible] def plc (b stop : Int) (xs : List Int) : List (Int × Int) := (enumI xs).map fun p => (stop - 1 - p.1 / b, p.2)
abbrev PlanT := Str × Sum (List (Int × Int)) (Option Int)
@[irreducible] def planM (n : Int) (trace : List (Tp Int)) (b s stop : Int) : PlanT :=
  if decide (s < (leastM n trace b stop).1) = true then (Str.ofString "barred", .inr (leastM n trace b stop).2)
  else (Str.ofString "plan", .inl (srt2 (plc b stop (dueM (lastsM n trace stop) (max 0 (n - s))).reverse)))
def roomF (b stop k t : Int) : Int := if t < stop then max 0 (min b (k - b * (stop - 1 - t))) else 0
def tickF (b stop k : Int) : Int := if k = 0 then stop - 1 else stop - 1 - (k - 1) / b
theorem roomF_0 {b stop t : Int} (hb : 0 < b) : roomF b stop 0 t = 0 := by
  unfold roomF
  split
  · have := Int.mul_nonneg (show 0 ≤ b by omega) (show 0 ≤ stop - 1 - t by omega)
    omega
  · rfl
theorem roomF_succ {b stop k t : Int} (hb : 0 < b) (hk : 0 ≤ k) : roomF b stop (k + 1) t = roomF b stop k t + (if t = stop - 1 - k / b then 1 else 0) := by
  have e1 := Int.mul_ediv_self_le (x := k) (k := b) (by omega)
  have e2 := Int.lt_mul_ediv_self_add (x := k) (k := b) hb
  have e3 : 0 ≤ k / b := Int.ediv_nonneg hk (by omega)
  generalize k / b = q at *
  unfold roomF
  by_cases ht : t < stop
  · rw [if_pos ht, if_pos ht]
    rcases Int.lt_trichotomy (stop - 1 - t) q with h | h | h
    · have := Int.mul_le_mul_of_nonneg_left (show stop - 1 - t + 1 ≤ q by omega) (show 0 ≤ b by omega)
      rw [Int.mul_add, Int.mul_one] at this
      rw [if_neg (by omega)]
      omega
    · rw [if_pos (by omega), h]
      omega
    · have := Int.mul_le_mul_of_nonneg_left (show q + 1 ≤ stop - 1 - t by omega) (show 0 ≤ b by omega)
      rw [Int.mul_add, Int.mul_one] at this
      rw [if_neg (by omega)]
      omega
  · rw [if_neg ht, if_neg ht, if_neg (by omega)]
    rfl
theorem tickF_succ {b stop k : Int} (hk : 0 ≤ k) : tickF b stop (k + 1) = stop - 1 - k / b := by
  unfold tickF
  rw [if_neg (by omega), Int.add_sub_cancel]
theorem plc_snoc (b stop : Int) (xs : List Int) (x : Int) : plc b stop (xs ++ [x]) = plc b stop xs ++ [(stop - 1 - (xs.length : Int) / b, x)] := by
  unfold plc enumI
  rw [List.zipIdx_append, List.map_append, List.map_append]
  simp
structure PlI (b stop : Int) (pre : List Int) (st : List (Int × Int) × Dct Int × Int) : Prop where
  cop : st.1 = plc b stop pre
  room : ∀ t, ((st.2.1.get? t).getD 0) = roomF b stop pre.length t
  few : st.2.1.l.length ≤ pre.length
  tick : st.2.2 = tickF b stop pre.length
theorem PlI.start (b stop : Int) (hb : 0 < b) : PlI b stop [] ([], Dct.emp, stop - 1) :=
  ⟨by unfold plc enumI; rfl, fun t => by show (0 : Int) = roomF b stop ((0 : Nat) : Int) t; rw [show ((0 : Nat) : Int) = 0 from rfl, roomF_0 hb], Nat.le_refl _, by unfold tickF; rfl⟩
theorem Dct.put_len {α : Type} (d : Dct α) (k : Int) (x : α) : (d.put k x).l.length ≤ d.l.length + 1 := by
  unfold Dct.put
  dsimp only
  split
  · rw [List.length_map]; omega
  · rw [List.length_append]; simp
theorem PlI.next {b stop : Int} {pre : List Int} {c : List (Int × Int)} {r : Dct Int} {t t' x : Int} (h : PlI b stop pre (c, r, t)) (hb : 0 < b) (e : t' = stop - 1 - (pre.length : Int) / b) :
    PlI b stop (pre ++ [x]) (c ++ [(t', x)], r.put t' ((r.get? t').getD 0 + 1), t') := by
  have hr := h.room
  have hc := h.cop
  have hf := h.few
  dsimp only at hr hc hf
  have el : ((pre ++ [x]).length : Int) = (pre.length : Int) + 1 := by simp
  refine ⟨?_, fun j => ?_, ?_, ?_⟩
  · dsimp only; rw [plc_snoc, hc, e]
  · dsimp only
    rw [el, roomF_succ hb (by omega), Dct.get?_put, ← e]
    by_cases hj : j = t'
    · rw [if_pos hj, if_pos hj, hr, hj]; rfl
    · rw [if_neg hj, if_neg hj, hr]; omega
  · have := Dct.put_len r t' ((r.get? t').getD 0 + 1)
    simp only [List.length_append, List.length_singleton]
    omega
  · dsimp only; rw [el, tickF_succ (by omega), e]
end GL
namespace GL
open PySem PySem.Spec PyProof.Rows L2
instance : Inhabited (Tp Int) := ⟨⟨[]⟩⟩
abbrev ScanT := Sum (T3 Str Int (List (Int × Int))) (Str × List Int)
def scB (n : Int) (trace : List (Tp Int)) (b s : Int) (found : List Int) (stop : Int) : Fl (List Int) ScanT :=
  if decide ((planM n trace b s stop).1 = Str.ofString "plan") = true then .rt (.inl ⟨Str.ofString "stop", stop, lG (planM n trace b s stop).2⟩) else .nx (found ++ [(rG (planM n trace b s stop).2).getD default])
@[irreducible] def scanM (w : Str) (n : Int) (trace : List (Tp Int)) (b s m : Int) : ScanT := forL (scB n trace b s) (fun f => .inr (w, f)) (rng 0 m) []
@[irreducible] def longM (lead ring : List (Tp Int)) (stop : Int) : List (Tp Int) := whl (fun f => decide ((f.length : Int) < stop)) (fun f => Fl.nx (f ++ ring)) id stop.toNat lead
def manyM (n : Int) (lead ring : List (Tp Int)) (b : Int) : Int := (lead.length : Int) + (ring.length : Int) + (n + b - 1) / b
@[irreducible] def everM (n : Int) (lead ring : List (Tp Int)) (b s : Int) : ScanT := scanM (Str.ofString "never") n (longM lead ring (manyM n lead ring b)) b s (manyM n lead ring b)
end GL
namespace GL
open PySem PySem.Spec PyProof.Rows L2
end GL
namespace GL
open PySem PySem.Spec PyProof.Rows L2
theorem ceil_le {n b j : Int} (hb : 0 < b) : (n + b - 1) / b ≤ j ↔ n ≤ b * j := by
  have e1 := Int.mul_ediv_self_le (x := n + b - 1) (k := b) (by omega)
  have e2 := Int.lt_mul_ediv_self_add (x := n + b - 1) (k := b) hb
  generalize (n + b - 1) / b = q at *
  constructor
  · intro h
    have := Int.mul_le_mul_of_nonneg_left h (show 0 ≤ b by omega)
    omega
  · intro h
    by_cases g : q ≤ j
    · exact g
    · have := Int.mul_le_mul_of_nonneg_left (show j + 1 ≤ q by omega) (show 0 ≤ b by omega)
      rw [Int.mul_add, Int.mul_one] at this
      omega
abbrev wholeT (n : Int) : Tp Int := ⟨rng 0 n⟩
instance {α β γ : Type} [Inhabited α] [Inhabited β] [Inhabited γ] : Inhabited (T3 α β γ) := ⟨⟨default, default, default⟩⟩
end GL
namespace GL
open PySem PySem.Spec PyProof.Rows L2
theorem flat_one {α : Type} (x : α) : ∀ m : Nat, (List.replicate m [x]).flatten = List.replicate m x
  | 0 => rfl
  | m + 1 => by rw [List.replicate_succ, List.flatten_cons, flat_one x m]; rfl
section
variable {n b most : Int} (hn : 1 ≤ n) (hb : 1 ≤ b)
include hn hb
end
end GL
namespace GL
open PySem PySem.Spec PyProof.Rows L2
theorem lastN_lt10 (T : List (Tp Int)) (x : Int) : ∀ k : Nat, (lastN T k x).getD (-1) < k
  | 0 => by show (-1 : Int) < 0; omega
  | k + 1 => by
    rw [lastN]
    split
    · show (k : Int) < ((k + 1 : Nat) : Int); omega
    · have := lastN_lt10 T x k; omega
theorem lastW_lt {T : List (Tp Int)} {k x : Int} (h : 0 ≤ k) : lastW T k x < k := by
  have := lastN_lt10 T x k.toNat
  unfold lastW
  omega
theorem lastW_next {T : List (Tp Int)} {k x : Int} (h : 0 ≤ k) : lastW T (k + 1) x = if x ∈ (T.getD k.toNat ⟨[]⟩).l then k else lastW T k x := by
  unfold lastW
  rw [show (k + 1).toNat = k.toNat + 1 by omega, lastN]
  split
  · show ((k.toNat : Nat) : Int) = k; omega
  · rfl
structure Fr (T : List (Tp Int)) (fresh : Dct Bool) (cop : Dct Int) (beat : Int) : Prop where
  iff : ∀ x, (fresh.get? x).isSome = true ↔ ∃ c, cop.get? x = some c ∧ lastW T beat x < c
  le : ∀ x c, cop.get? x = some c → 0 ≤ c ∧ c ≤ beat
  ok : fresh.Ok 1000
theorem Fr.start (T : List (Tp Int)) : Fr T Dct.emp Dct.emp 0 := ⟨fun x => ⟨fun h => absurd h Bool.false_ne_true, fun ⟨c, h, _⟩ => (nomatch h)⟩, fun x c h => (nomatch h), Dct.Ok.emp⟩
theorem Fr.put {T : List (Tp Int)} {fresh : Dct Bool} {cop : Dct Int} {beat x : Int} (h : Fr T fresh cop beat) (h0 : 0 ≤ beat) (hx : 0 ≤ x ∧ x < 1000) : Fr T (fresh.put x true) (cop.put x beat) beat := by
  refine ⟨fun y => ?_, fun y c hc => ?_, h.ok.put _ hx⟩
  · rw [Dct.get?_put, Dct.get?_put]
    by_cases e : y = x
    · rw [if_pos e, if_pos e]
      exact ⟨fun _ => ⟨beat, rfl, lastW_lt h0⟩, fun _ => rfl⟩
    · rw [if_neg e, if_neg e]
      exact h.iff y
  · rw [Dct.get?_put] at hc
    by_cases e : y = x
    · rw [if_pos e] at hc
      have : beat = c := Option.some.inj hc
      omega
    · rw [if_neg e] at hc
      exact h.le y c hc
theorem get?_dels (x : Int) : ∀ (l : List Int) (d : Dct Bool), (l.foldl (fun f y => f.del y) d).get? x = if x ∈ l then none else d.get? x
  | [], d => by simp
  | y :: l, d => by
    rw [List.foldl_cons, get?_dels x l, Dct.get?_del]
    by_cases h : x ∈ l
    · rw [if_pos h, if_pos (List.mem_cons_of_mem _ h)]
    · rw [if_neg h]
      by_cases e : x = y
      · rw [if_pos e, if_pos (by rw [e]; exact List.mem_cons_self)]
      · rw [if_neg e, if_neg (fun q => (List.mem_cons.mp q).elim e h)]
theorem dels_ok : ∀ (l : List Int) {d : Dct Bool}, d.Ok 1000 → (l.foldl (fun f y => f.del y) d).Ok 1000
  | [], d, h => h
  | y :: l, d, h => dels_ok l (h.del y)
theorem Fr.row {T : List (Tp Int)} {fresh : Dct Bool} {cop : Dct Int} {beat : Int} (h : Fr T fresh cop beat) (h0 : 0 ≤ beat) : Fr T ((T.getD beat.toNat ⟨[]⟩).l.foldl (fun f y => f.del y) fresh) cop (beat + 1) := by
  refine ⟨fun y => ?_, fun y c hc => by have := h.le y c hc; omega, dels_ok _ h.ok⟩
  rw [get?_dels, lastW_next h0]
  by_cases e : y ∈ (T.getD beat.toNat ⟨[]⟩).l
  · rw [if_pos e, if_pos e]
    refine ⟨fun z => absurd z Bool.false_ne_true, fun ⟨c, hc, q⟩ => ?_⟩
    have := h.le y c hc
    omega
  · rw [if_neg e, if_neg e]
    exact h.iff y
theorem row_at {T : List (Tp Int)} {beat : Int} (h0 : 0 ≤ beat) : ix (T ++ (List.replicate (beat + 1).toNat [(⟨[]⟩ : Tp Int)]).flatten) beat = T.getD beat.toNat ⟨[]⟩ := by
  rw [flat_one]
  unfold ix
  rw [List.getD_eq_getElem?_getD, List.getD_eq_getElem?_getD]
  by_cases h : beat.toNat < T.length
  · rw [List.getElem?_append_left h]
    cases e : T[beat.toNat]? with
    | none => rw [List.getElem?_eq_none_iff] at e; omega
    | some t => rfl
  · rw [List.getElem?_append_right (by omega), List.getElem?_replicate, if_pos (by omega), List.getElem?_eq_none (by omega)]
    rfl
structure DuT (T : List (Tp Int)) (b tick : Int) (W : List Int) (cop0 : Dct Int) (beat : Int) (q : Nat) (fresh : Dct Bool) (waits : List Int) : Prop where
  w : waits = W.drop q
  f : Fr T fresh (((enumI W).take q).foldl (rdCop b tick) cop0) beat
theorem enum_take {W : List Int} {q : Nat} (h : q < W.length) : (enumI W).take (q + 1) = (enumI W).take q ++ [((q : Int), W[q])] := by
  rw [List.take_add_one]
  congr 1
  unfold enumI
  rw [List.getElem?_map, List.getElem?_zipIdx, List.getElem?_eq_getElem h]
  simp
theorem DuT.next {T : List (Tp Int)} {b tick : Int} {W : List Int} {cop0 : Dct Int} {beat : Int} {q : Nat} {fresh : Dct Bool} {waits : List Int} (I : DuT T b tick W cop0 beat q fresh waits) (hW : ∀ x ∈ W, 0 ≤ x ∧ x < 1000) (h0 : 0 ≤ beat) (hq : q < W.length) (hj : tick + (q : Int) / b = beat) : DuT T b tick W cop0 beat (q + 1) (fresh.put (ix waits 0) true) (waits.drop 1) := by
  have e : ix waits 0 = W[q] := by
    rw [I.w]
    unfold ix
    rw [List.getD_eq_getElem?_getD, show (0 : Int).toNat = 0 from rfl, List.getElem?_drop, Nat.add_zero, List.getElem?_eq_getElem hq]
    rfl
  refine ⟨by rw [I.w, List.drop_drop], ?_⟩
  rw [enum_take hq, List.foldl_append, List.foldl_cons, List.foldl_nil, e]
  show Fr T _ (Dct.put _ W[q] (tick + (q : Int) / b)) beat
  rw [hj]
  exact I.f.put h0 (hW _ (List.getElem_mem hq))
def DuI (T : List (Tp Int)) (b tick : Int) (W : List Int) (cop0 : Dct Int) (st : Dct Bool × Int × List Int) : Prop :=
  ∃ j p : Nat, st.2.1 = tick + j ∧ p ≤ W.length ∧ p ≤ j * b.toNat ∧ (p < W.length → p = j * b.toNat) ∧ (0 < j → (j - 1) * b.toNat < W.length) ∧ DuT T b tick W cop0 st.2.1 p st.1 st.2.2
theorem DuI.start {T : List (Tp Int)} {b tick : Int} {W : List Int} {cop0 : Dct Int} {fresh : Dct Bool} (h : Fr T fresh cop0 tick) : DuI T b tick W cop0 (fresh, tick, W) :=
  ⟨0, 0, by show tick = tick + ((0 : Nat) : Int); omega, Nat.zero_le _, by omega, fun _ => by omega, fun h => absurd h (by omega), ⟨rfl, h⟩⟩
theorem DuI.fin {T : List (Tp Int)} {b tick : Int} {W : List Int} {cop0 : Dct Int} {fresh : Dct Bool} {beat : Int} {waits : List Int} (I : DuI T b tick W cop0 (fresh, beat, waits)) (hb : 1 ≤ b) (hW : W ≠ []) (hw : waits = []) : beat = tick + ((W.length : Int) + b - 1) / b ∧ Fr T fresh ((enumI W).foldl (rdCop b tick) cop0) beat := by
  obtain ⟨j, p, e, h1, h2, h3, h4, h5⟩ := I
  dsimp only at e h5
  have hp : p = W.length := by
    have := h5.w
    rw [hw] at this
    have := congrArg List.length this
    rw [List.length_drop, List.length_nil] at this
    omega
  have hl : 0 < W.length := List.length_pos_iff.mpr hW
  have hj : 0 < j := Nat.pos_of_ne_zero fun z => by rw [z, Nat.zero_mul] at h2; omega
  have h6 := h4 hj
  have hbn : ((b.toNat : Nat) : Int) = b := by omega
  have a1 : ((W.length : Int) + b - 1) / b ≤ j := (ceil_le (by omega)).mpr (by
    rw [hp] at h2
    have : ((W.length : Nat) : Int) ≤ ((j * b.toNat : Nat) : Int) := by omega
    rw [Int.natCast_mul, hbn, Int.mul_comm] at this
    exact this)
  have a2 : ¬ ((W.length : Int) + b - 1) / b ≤ j - 1 := fun z => by
    have := (ceil_le (n := (W.length : Int)) (b := b) (j := (j : Int) - 1) (by omega)).mp z
    have h7 : (((j - 1) * b.toNat : Nat) : Int) < ((W.length : Nat) : Int) := by omega
    rw [Int.natCast_mul, hbn, Int.mul_comm, show ((j - 1 : Nat) : Int) = (j : Int) - 1 by omega] at h7
    omega
  refine ⟨by omega, ?_⟩
  have h8 := h5.f
  rw [hp, ← len_enumI, List.take_length] at h8
  exact h8
theorem DuI.step {T : List (Tp Int)} {b tick : Int} {W : List Int} {cop0 : Dct Int} {beat : Int} {j p m : Nat} {fresh : Dct Bool} {waits : List Int} (hb : 1 ≤ b) (h0 : 0 ≤ beat) (e : beat = tick + j) (hp : p < W.length) (hpj : p = j * b.toNat) (hm : (m : Int) = min b ((W.length - p : Nat) : Int)) (I : DuT T b tick W cop0 beat (p + m) fresh waits) :
    DuI T b tick W cop0 ((T.getD beat.toNat ⟨[]⟩).l.foldl (fun f y => f.del y) fresh, beat + 1, waits) := by
  have hs : (j + 1) * b.toNat = j * b.toNat + b.toNat := Nat.succ_mul j b.toNat
  refine ⟨j + 1, p + m, by show beat + 1 = tick + ((j + 1 : Nat) : Int); omega, by omega, by omega, fun z => by omega, fun _ => by rw [Nat.add_sub_cancel]; omega, ⟨I.w, I.f.row h0⟩⟩
def DoI (n : Int) (T : List (Tp Int)) (b s most : Int) (st : Dct Bool × List (Int × Tp Int) × Int × List Int) : Prop :=
  ∃ (m : Nat) (cop : Dct Int), roundsM n T b s most = whl (rdC most s) (rdB n T b) rdK m (st.2.1, cop, st.2.2.1, st.2.2.2) ∧ RdI n b most (st.2.1, cop, st.2.2.1, st.2.2.2) ∧ most ≤ st.2.1.length + m ∧ Fr T st.1 cop st.2.2.1 ∧ (st.2.1 = [] → st.2.2.2 ≠ [])
def dueC (most s : Int) (st : Dct Bool × List (Int × Tp Int) × Int × List Int) : Bool := decide (st.2.1 = []) || (decide ((st.2.1.length : Int) < most) && decide (s < (st.2.2.2.length : Int)))
theorem DoI.start {n : Int} {T : List (Tp Int)} {b s most : Int} (hn : 1 ≤ n) (hm : 1 ≤ most) : DoI n T b s most (Dct.emp, [], 0, rng 0 n) :=
  ⟨most.toNat, Dct.emp, by unfold roundsM; rfl, RdI.start (by omega), by show most ≤ ((([] : List (Int × Tp Int)).length : Nat) : Int) + (most.toNat : Int); simp; omega, Fr.start T, fun _ z => by
    have := congrArg List.length z
    rw [len_rng] at this
    simp at this
    omega⟩
theorem due_law {n tick : Int} {T : List (Tp Int)} {fresh : Dct Bool} {cop : Dct Int} (h : Fr T fresh cop tick) (hc : ∀ x, 0 ≤ x → x < n → (cop.get? x).isSome = true) : (rng 0 n).filter (fun x => !(fresh.get? x).isSome) = rdDue n T cop tick := by
  unfold rdDue
  rw [List.map_id']
  apply List.filter_congr
  intro x hx
  have hx' := mem_rng.mp hx
  obtain ⟨c, hcx⟩ := Option.isSome_iff_exists.mp (hc x hx'.1 hx'.2)
  have hd : dix cop x = c := dix_of hcx
  have h1 := h.iff x
  have h2 := h.le x c hcx
  have h3 := lastG T tick x
  rw [hd]
  cases e : (writtenIn T 0 tick).get? x with
  | none =>
    rw [e] at h3
    have h4 : lastW T tick x = -1 := h3.symm
    have : (fresh.get? x).isSome = true := h1.mpr ⟨c, hcx, by omega⟩
    rw [this]
    rfl
  | some t =>
    rw [e] at h3
    have h4 : t = lastW T tick x := h3
    have h5 : dix (writtenIn T 0 tick) x = t := dix_of e
    rw [h5]
    by_cases q : t < c
    · rw [h1.mpr ⟨c, hcx, by omega⟩, decide_eq_false (by omega)]
      rfl
    · have : (fresh.get? x).isSome = false := Bool.eq_false_iff.mpr fun z => by
        obtain ⟨c', e1, e2⟩ := h1.mp z
        rw [hcx] at e1
        cases e1
        omega
      rw [this, decide_eq_true (by omega)]
      rfl
theorem DoI.next {n : Int} {T : List (Tp Int)} {b s most : Int} {fresh fresh' : Dct Bool} {found : List (Int × Tp Int)} {beat beat' : Int} {waits : List Int} {m : Nat} {cop : Dct Int} (P : RdP n T b most)
    (h1 : roundsM n T b s most = whl (rdC most s) (rdB n T b) rdK m (found, cop, beat, waits)) (h2 : RdI n b most (found, cop, beat, waits)) (h3 : most ≤ found.length + m) (hc : rdC most s (found, cop, beat, waits) = true)
    (hb : beat' = beat + ((waits.length : Int) + b - 1) / b) (hf : Fr T fresh' ((enumI waits).foldl (rdCop b beat) cop) beat') :
    DoI n T b s most (fresh', found ++ [(beat, ⟨waits⟩)], beat', (rng 0 n).filter (fun x => !(fresh'.get? x).isSome)) := by
  have hlt := rdC_lt hc
  dsimp only at hlt
  have e : rdN n T b (found, cop, beat, waits) = (found ++ [(beat, ⟨waits⟩)], (enumI waits).foldl (rdCop b beat) cop, beat', (rng 0 n).filter (fun x => !(fresh'.get? x).isSome)) := by
    rw [due_law hf fun x x0 x1 => h2.covered x0 x1]
    subst hb
    rfl
  cases m with
  | zero => omega
  | succ m =>
    refine ⟨m, (enumI waits).foldl (rdCop b beat) cop, ?_, ?_, ?_, hf, fun z => absurd z (by simp)⟩
    · have := whl_nx h1 hc rfl
      rw [e] at this
      exact this
    · have := h2.next P
      rw [e] at this
      exact this
    · show most ≤ (((found ++ [(beat, (⟨waits⟩ : Tp Int))]).length : Nat) : Int) + (m : Int)
      rw [List.length_append, List.length_singleton]
      omega
end GL
namespace GL
open PySem PySem.Spec PyProof.Rows L2
variable {C : Addr}
theorem get?_delL (x : Int) (l : List Int) (d : Dct Bool) : (l.foldl Dct.del d).get? x = if x ∈ l then none else d.get? x := get?_dels x l d
def NoLack (z : Car C) : Prop := ∀ p, (z.absent.get? p).isSome = false
theorem noLack_emp {z : Car C} (h : z.absent.l = []) : NoLack z := fun p => by
  unfold Dct.get?
  rw [h]
  rfl
theorem noLack_lks {z : Car C} (h : NoLack z) : lksM z = [] := by
  unfold lksM
  split
  · rfl
  · rw [List.filter_eq_nil_iff]
    intro p _
    rw [h p]
    decide
theorem tickC_goes {z : Car C} (h0 : z.still = false) (h1 : lksM z = []) : tickC z = (⟨(tickM z.g z.st z.wait).b, [(tickM z.g z.st z.wait).c]⟩, wentM z (tickM z.g z.st z.wait)) := (tick_end h0 h1 rfl rfl).symm
theorem tickC_lacks {z : Car C} (h0 : z.still = false) (h1 : lksM z ≠ []) : tickC z = (⟨Str.ofString "lacks", [some (ix (lksM z) 0)]⟩, z) := (tick_lacks h0 rfl h1).symm
structure CarRun (g : Prog) (s : Stand) (l : Lets) (t av : Int) (z : Car C) : Prop where
  gg : z.g = g
  st : z.st = (runF g s l (rng 0 t)).2.1
  wait : z.wait = (availM l av).drop (runF g s l (rng 0 t)).1.toNat
  done : z.done = t
  sl : (z.said.length : Int) ≤ t
theorem CarRun.ok {g : Prog} {s : Stand} {l : Lets} {t av : Int} {z : Car C} (h : CarRun g s l t av z) (hg : ProgOk g) (hs : StandOk g s) (hl : LetsOk g l) (ht : t ≤ 100000) : CarOk z := by
  obtain ⟨h1, h2, h3, h4, h5⟩ := h
  have ha := avail_ok hl av (runF g s l (rng 0 t)).1.toNat
  exact ⟨by rw [h1]; exact hg, by rw [h1, h2]; exact (run_ok hg hs hl _).1, by rw [h1, h3]; exact ha.1, by rw [h3]; exact ha.2, by omega⟩
theorem run_next {g : Prog} {s : Stand} {l : Lets} {t : Int} (ht : 0 ≤ t) : runF g s l (rng 0 (t + 1)) = runStep g l (runF g s l (rng 0 t)) t := by rw [rng_succ ht, run_snoc]
theorem CarRun.went {g : Prog} {s : Stand} {l : Lets} {t : Int} {z : Car C} (h : CarRun g s l t t z) (ht : 0 ≤ t) (h0 : ((runF g s l (rng 0 t)).1) ≥ 0) : CarRun g s l (t + 1) t (wentM z (tickM z.g z.st z.wait)) := by
  obtain ⟨h1, h2, h3, h4, h5⟩ := h
  have e : tickM z.g z.st z.wait = tickM g (runF g s l (rng 0 t)).2.1 ((availM l t).drop (runF g s l (rng 0 t)).1.toNat) := by rw [h1, h2, h3]
  refine ⟨h1, ?_, ?_, ?_, ?_⟩
  · rw [run_next ht, runStep_stand, ← e]
    rfl
  · rw [run_next ht, runStep_used, ← e]
    show (if decide ((tickM z.g z.st z.wait).b = Str.ofString "took") = true then z.wait.drop 1 else z.wait) = _
    split
    · rw [h3, List.drop_drop]
      congr 1
      omega
    · rw [Int.add_zero, h3]
  · show z.done + 1 = t + 1
    rw [h4]
  · show ((if decide ((tickM z.g z.st z.wait).b = Str.ofString "said") = true then z.said ++ [(tickM z.g z.st z.wait).c.getD default] else z.said).length : Int) ≤ t + 1
    split
    · rw [List.length_append]
      show ((z.said.length + 1 : Nat) : Int) ≤ t + 1
      omega
    · omega
def lastC (cps : List (Int × Int)) (p : Int) : Option Int := ((cps.filter fun c => decide (c.2 = p)).map (·.1)).getLast?
def freshB (cps : List (Int × Int)) (tou : Tou) (p : Int) : Bool := match lastC cps p with
  | none => false
  | some k => ((rng k tou.length).filter fun j => decide (p ∈ (ix tou j).2.l)).isEmpty
theorem lastC_same {cps : List (Int × Int)} {t p : Int} : lastC (cps ++ [(t, p)]) p = some t := by
  unfold lastC
  rw [List.filter_append, List.filter_cons, if_pos (by simp), List.filter_nil, List.map_append]
  simp
theorem lastC_other {cps : List (Int × Int)} {t p q : Int} (h : p ≠ q) : lastC (cps ++ [(t, p)]) q = lastC cps q := by
  unfold lastC
  rw [List.filter_append, List.filter_cons, if_neg (by simp [h]), List.filter_nil, List.append_nil]
theorem lastC_mem {cps : List (Int × Int)} {p k : Int} (h : lastC cps p = some k) : (k, p) ∈ cps := by
  unfold lastC at h
  have := List.mem_of_getLast? h
  obtain ⟨c, hc, e⟩ := List.mem_map.mp this
  have h2 := List.mem_filter.mp hc
  have e2 : c.2 = p := by simpa using h2.2
  rw [← e, ← e2]
  exact h2.1
theorem fresh_copy {cps : List (Int × Int)} {tou : Tou} {t p q : Int} (ht : t = tou.length) : freshB (cps ++ [(t, p)]) tou q = (decide (q = p) || freshB cps tou q) := by
  by_cases e : q = p
  · subst e
    unfold freshB
    rw [lastC_same, ht]
    dsimp only
    rw [rng_nil (Int.le_refl _)]
    simp
  · unfold freshB
    rw [lastC_other (fun z => e z.symm), decide_eq_false e]
    rfl
theorem fresh_tick {cps : List (Int × Int)} {tou : Tou} {x : Tp Int × Tp Int} {p : Int} (h : ∀ c ∈ cps, 0 ≤ c.1 ∧ c.1 ≤ tou.length) : freshB cps (tou ++ [x]) p = (freshB cps tou p && !decide (p ∈ x.2.l)) := by
  unfold freshB
  cases e : lastC cps p with
  | none => rfl
  | some k =>
    have hk := h _ (lastC_mem e)
    dsimp only at hk ⊢
    rw [List.length_append, show ((tou.length + [x].length : Nat) : Int) = (tou.length : Int) + 1 by simp, rng_succ hk.2, List.filter_append]
    have e1 : (rng k tou.length).filter (fun j => decide (p ∈ (ix (tou ++ [x]) j).2.l)) = (rng k tou.length).filter (fun j => decide (p ∈ (ix tou j).2.l)) := by
      refine List.filter_congr fun j hj => ?_
      have hj' := mem_rng.mp hj
      unfold ix
      rw [List.getD_eq_getElem?_getD, List.getD_eq_getElem?_getD, List.getElem?_append_left (by omega)]
    have e2 : ix (tou ++ [x]) (tou.length : Int) = x := by
      unfold ix
      rw [List.getD_eq_getElem?_getD, Int.toNat_natCast, List.getElem?_append_right (Nat.le_refl _), Nat.sub_self]
      rfl
    rw [e1]
    by_cases c : p ∈ x.2.l
    · rw [List.filter_cons, e2, if_pos (by simpa using c), decide_eq_true c]
      simp
    · rw [List.filter_cons, e2, if_neg (by simpa using c), decide_eq_false c]
      simp
structure Going (h : Int) (cps : List (Int × Int)) (tou : Tou) (z : Car C) : Prop where
  goal : z.goal = some h
  still : z.still = false
  ab : z.absent.l = []
  made : z.made = cps.length
  fr : ∀ p, (z.fresh.get? p).isSome = freshB cps tou p
  fl : z.fresh.l.length ≤ cps.length
theorem Going.copy {h : Int} {cps : List (Int × Int)} {tou : Tou} {z : Car C} {t p : Int} (k : Going h cps tou z) (ht : t = tou.length) : Going h (cps ++ [(t, p)]) tou (copyC z p) := by
  obtain ⟨h1, h2, h3, h4, h5, h6⟩ := k
  unfold copyC
  refine ⟨h1, h2, h3, ?_, fun q => ?_, ?_⟩
  · show z.made + 1 = _
    rw [h4, List.length_append]
    simp
  · show ((z.fresh.put p true).get? q).isSome = _
    rw [Dct.get?_put, fresh_copy ht, ← h5 q]
    by_cases e : q = p
    · rw [if_pos e, decide_eq_true e]; rfl
    · rw [if_neg e, decide_eq_false e]; rfl
  · have := put_len (d := z.fresh) (k := p) (x := true)
    rw [List.length_append]
    show (z.fresh.put p true).l.length ≤ cps.length + 1
    omega
theorem dels_len : ∀ (l : List Int) (d : Dct Bool), (l.foldl Dct.del d).l.length ≤ d.l.length
  | [], d => Nat.le_refl _
  | p :: l, d => Nat.le_trans (dels_len l (d.del p)) del_len
theorem Going.went {h : Int} {cps : List (Int × Int)} {tou : Tou} {z : Car C} {t : TickR} (k : Going h cps tou z) (hc : ∀ c ∈ cps, 0 ≤ c.1 ∧ c.1 ≤ tou.length) : Going h cps (tou ++ [(t.d, t.e)]) (wentM z t) := by
  obtain ⟨h1, h2, h3, h4, h5, h6⟩ := k
  refine ⟨h1, h2, ?_, h4, fun q => ?_, ?_⟩
  · show (t.e.l.foldl Dct.del z.absent).l = []
    have := dels_len t.e.l z.absent
    rw [h3] at this
    exact List.eq_nil_of_length_eq_zero (by simpa using this)
  · show ((t.e.l.foldl Dct.del z.fresh).get? q).isSome = _
    rw [get?_delL, fresh_tick hc, ← h5 q]
    by_cases e : q ∈ t.e.l
    · rw [if_pos e, decide_eq_true e]; simp
    · rw [if_neg e, decide_eq_false e]; simp
  · exact Nat.le_trans (dels_len _ _) h6
theorem run_tou {g : Prog} {s : Stand} {l : Lets} {t : Int} (ht : 0 ≤ t) : (runF g s l (rng 0 (t + 1))).2.2.2 = (runF g s l (rng 0 t)).2.2.2 ++ [((tickM g (runF g s l (rng 0 t)).2.1 ((availM l t).drop (runF g s l (rng 0 t)).1.toNat)).d, (tickM g (runF g s l (rng 0 t)).2.1 ((availM l t).drop (runF g s l (rng 0 t)).1.toNat)).e)] := by
  rw [run_next ht]
  unfold runStep
  rfl
theorem tou_lenI {g : Prog} {s : Stand} {l : Lets} {t : Int} (ht : 0 ≤ t) : ((runF g s l (rng 0 t)).2.2.2.length : Int) = t := by
  rw [(run_len _).1, len_rng]
  omega
theorem go_tick {g : Prog} {s : Stand} {l : Lets} {t h : Int} {cps : List (Int × Int)} {z : Car C} (hs : StandOk g s) (hg : ProgOk g) (hl : LetsOk g l) (ht : 0 ≤ t) (k1 : CarRun g s l t t z) (k2 : Going h cps (runF g s l (rng 0 t)).2.2.2 z) (hc : ∀ c ∈ cps, 0 ≤ c.1 ∧ c.1 ≤ t) :
    CarRun g s l (t + 1) t (tickC z).2 ∧ Going h cps (runF g s l (rng 0 (t + 1))).2.2.2 (tickC z).2 ∧ (tickC z).2.houses = z.houses ∧ (tickC z).2.place = z.place := by
  rw [tickC_goes k2.still (noLack_lks (noLack_emp k2.ab))]
  have e : tickM z.g z.st z.wait = tickM g (runF g s l (rng 0 t)).2.1 ((availM l t).drop (runF g s l (rng 0 t)).1.toNat) := by rw [k1.gg, k1.st, k1.wait]
  refine ⟨k1.went ht (run_ok hg hs hl _).2, ?_, rfl, rfl⟩
  rw [run_tou ht, ← e]
  refine k2.went fun c h => ?_
  have h1 := hc c h
  have h2 := tou_lenI (g := g) (s := s) (l := l) ht
  omega
theorem lf_eq {z : Car C} {cps : List (Int × Int)} {tou : Tou} {h : Int} (k : Going h cps tou z) : lfM z = (rng 0 z.g.a).filter fun p => !freshB cps tou p := by
  unfold lfM
  exact List.filter_congr fun p _ => by rw [k.fr p]
end GL
namespace L2
open PySem PySem.Spec PyProof.Rows
section
variable {X : Cx}
def tMethW (C : Addr) (m : Str) (sp : Sp) (E : St → XK) (ta : TE) (t : TA) : TE := fun σ H Q => ta σ H fun x H1 => ∃ a dx fs, x = .ref a ∧ H1 a = some (.ins C dx fs) ∧ fs.lookup m = none ∧ t σ H1 fun vs H2 => sp (x :: vs) H2 Q (E σ)
theorem pe_methW {CX : CXT} {C f : Addr} {k : Nat} {m : Str} {fd : FuncData} {ps : List Str} {sp : Sp} {E : St → XK} {o e : Expr} {es : List Expr} {ta : TE} {t : TA} {apos pos : Pos} {pl : Sem Bool} (he : PE X o ta) (c : Cls X.K C) (hm : Meth X.K C m f)
    (F : FnOk X.prog X.w X.K X.mg X.base CX k f fd ps sp) (hr : Room k X.A) (hb : Binds X.K fd ps []) (hx : ∀ σ, PassesAt CX X σ (E σ)) (ha : PA X (e :: es) t)
    (hst : starEach (e :: es) X.env = (false, eval e X.env) :: starEach es X.env := by rfl) (hpl : (backTo pos (starEach es X.env)).any (·.1) = false := by rfl)
    (ht : eval (.Call (.Attribute o m apos) (e :: es) [] pos) X.env = (do
      let ov ← eval o X.env
      standAt apos.atName
      let (f, first) ← holding [ov] (getMethod ov m pl)
      callWith pos f first (backTo pos (starEach (e :: es) X.env)) (backToKw pos (keywordEach [] X.env))) := by rfl) :
    PE X (.Call (.Attribute o m apos) (e :: es) [] pos) (tMethW C m sp E ta t) := ⟨fun pins s σ H Q I h => by
  refine PySem.W.methodCall_KW (pl := pl) (thn (he.run pins s σ H _ I h) fun u s1 ⟨x, H1, I1, rx, a, dx, fs, ex, ea, l, q⟩ => ?_) ht
  subst ex
  cases rx
  refine getmeth_ok I1 ea c hm l (PySem.W.callWith_K (first := [.ref a]) (h₀ := s1.heap) I1.kIn hm.kp (thn (ha.run pos pins s1 σ H1 _ I1 q) fun us s2 ⟨vs, H2, I2, r2, q2⟩ => ⟨I2.kIn, ?_⟩) hst hpl)
  exact run_fnS (vs := .ref a :: vs) F hr hb (hx σ) I2 (.cons rfl r2) q2⟩
def rCntV (K : PySem.W.Frag) : V → List V → Hp → VK → Prop := fun x xs H Q => ∃ (p : Addr) (ys : List V) (y : V), x = .ref p ∧ xs = [y] ∧ SqL K H p ys ∧ flatV y = true ∧ ys.all flatV = true ∧ Q (.int ((ys.countP fun z => eqV z y) : Nat)) H
end
end L2
namespace GL
open PySem PySem.Spec PyProof.Rows L2
structure MCalX (P : Program) (w : World) (K : Fg) (mg : Str → Option Value) (base : Heap) (k : Nat) (C : Addr) (m : Str) (ps : List Str) (sp : Sp) : Prop where
  ex : ∃ (f : Addr) (fd : FuncData), Meth K C m f ∧ FnOk P w K mg base (L2.CX P w) k f fd ps sp ∧ Binds K fd ps []
theorem pe_mcalX {X : Cx} {j k : Nat} {C : Addr} {m : Str} {ps : List Str} {sp : Sp} {o e : Expr} {es : List Expr} {ta : TE} {t : TA} {apos pos : Pos} {pl : Sem Bool} {W : WX} (c : MCalX X.prog X.w X.K X.mg X.base k C m ps sp) (cl : Cls X.K C) (tk : Takes X W) (hr : Room j X.A) (hk : k ≤ j) (he : PE X o ta) (ha : PA X (e :: es) t)
    (hst : starEach (e :: es) X.env = (false, eval e X.env) :: starEach es X.env := by rfl) (hpl : (backTo pos (starEach es X.env)).any (·.1) = false := by rfl)
    (ht : eval (.Call (.Attribute o m apos) (e :: es) [] pos) X.env = (do
      let ov ← eval o X.env
      standAt apos.atName
      let (f, first) ← holding [ov] (getMethod ov m pl)
      callWith pos f first (backTo pos (starEach (e :: es) X.env)) (backToKw pos (keywordEach [] X.env))) := by rfl) :
    PE X (.Call (.Attribute o m apos) (e :: es) [] pos) (tMethW C m sp (WE W) ta t) := by
  obtain ⟨f, fd, a, b, d⟩ := c.ex
  exact pe_methW (pl := pl) he cl a b (hr.mono hk) d (fun σ => passAt tk σ) ha hst hpl ht
def spOX {ω α β : Type} [Own ω] [PyA α] [Py β] (K : Fg) (Y : XC → Addr) (R : ω → α → β → ω → Prop) (Rf : ω → α → XC → Prop) (pre : ω → α → Prop) : Sp := fun vs H Q E => ∃ (S : Hp) (v0 : V) (ws : List V) (ps : List Addr) (z : ω) (a : α), vs = v0 :: ws ∧ Same S H ∧ Own.own K S H v0 ps z ∧
  (∀ p ∈ ps, S p = none ∧ ∃ o, H p = some o) ∧ PyA.rep K S ws a ∧ pre z a ∧
  (∀ v S' H' ps' y z', R z a y z' → Same S S' → Same S' H' → (∀ p o, p ∉ ps → H p = some o → H' p = some o) → (∀ p o, p ∉ ps → H p = some o → S' p = S p) →
    (∀ p ∈ ps', S' p = none ∧ (∃ o, H' p = some o) ∧ (p ∈ ps ∨ H p = none)) → Own.own K S' H' v0 ps' z' → Py.rep K S' v y → Q v H') ∧
  ∀ e S' H', Rf z a e → Same S S' → Same S' H' → (∀ p o, p ∉ ps → H p = some o → H' p = some o) → (∀ p o, p ∉ ps → H p = some o → S' p = S p) → (∀ p ∈ ps, S' p = none ∧ ∃ o, H' p = some o) → Own.own K S' H' v0 ps z → E (.ref (Y e)) none H'
section
variable {C : Addr} {K : Fg} {B S0 S1 S S' D : Hp} {σ : L2.St} {H H' : Hp} {F : Nat → List Addr} {G G' G1 G2 : List Sl} {ta te : TE} {i j : Nat} {t : TA} {u : TS} {E : Ends} {Ex : XK} {m : Str} {Y : XC → Addr} {W : WX}
variable {α β : Type} [PyA α] [Py β] {z z1 : Car C} {a : α} {R : Car C → α → β → Car C → Prop} {Rf : Car C → α → XC → Prop} {pre : Car C → α → Prop}
theorem callOX {Q : VK} {EE : XK} {vs : List V} (k1 : Kn K B S0 S1 σ H F G1) (h1 : σ[i]? = some (some (.ref z.a))) (ez : z1.a = z.a) (hi1 : G1[i]? = some (.ow z1)) (r1 : PyA.rep K S1 vs a) (hp : pre z1 a)
    (ok : ∀ y z', R z1 a y z' → ∀ v S' H', Same S1 S' → Kn K B S0 S' σ H' (upF F i z'.fp) (G1.set i (.ow z')) → Py.rep K S' v y → Q v H') (er : ∀ e, Rf z1 a e → ∀ S' H', Kn K B S0 S' σ H' F G1 → EE (.ref (Y e)) none H') : spOX K Y R Rf pre (.ref z.a :: vs) H Q EE := by
  obtain ⟨v1, h3, h4⟩ := k1.ow hi1
  rw [h1] at h3
  cases h3
  refine ⟨S1, .ref z.a, vs, F i, z1, a, rfl, k1.sub, h4, fun p hp => ⟨(k1.off i p hp).1, (k1.off i p hp).2.2⟩, r1, hp, fun v S2 H2 ps' y z' hR s1 s2 hk hc hl ho r2 => ?_, fun e S2 H2 hf s1 s2 hk hc hl ho => ?_⟩
  · have ep : ps' = z'.fp := ho.2.1
    subst ep
    exact ok y z' hR v S2 H2 s1 (k1.moved hi1 h1 s1 s2 hk hc hl ho) r2
  · have k2 := k1.moved (z' := z1) hi1 h1 s1 s2 hk hc (fun p hp => ⟨(hl p hp).1, (hl p hp).2, .inl hp⟩) ho
    have eF : upF F i (F i) = F := by
      funext n
      by_cases c : n = i
      · rw [c, upF_self]
      · rw [upF_ne c]
    have eG : G1.set i (.ow z1) = G1 := by
      apply List.ext_getElem?
      intro n
      by_cases c : i = n
      · subst c
        rw [List.getElem?_set_self (List.getElem?_eq_some_iff.mp hi1).1, hi1]
      · rw [List.getElem?_set_ne c]
    rw [eF, eG] at k2
    exact er e hf S2 H2 k2
theorem q_methX (hm : m ∉ carK) (hi : G[i]? = some (.ow z)) (ha : EvA K t G a G) (hp : pre z a) (ok : ∀ y z', R z a y z' → At K B S0 (u E) (G.set i (.ow z'))) (er : ∀ e, Rf z a e → At K B S0 (W (.ref (Y e)) none) G) :
    At K B S0 (tSeq (tDrop (tMethW C m (spOX K Y R Rf pre) (WE W) (tVar i) t)) u E) G := fun S σ H F kn => by
  obtain ⟨h1, h2, dx, pv, sv, kf, kb, c⟩ := car_at kn hi
  exact ⟨.ref z.a, h1, z.a, dx, _, rfl, c.ob, look_none hm, ha B S0 S σ H F kn _ fun vs S1 H1 e1 k1 r1 => callOX k1 h1 rfl hi r1 hp (fun y z' hR v S' H' s k r => ok y z' hR S' σ H' _ k) fun e hf S' H' k => er e hf S' σ H' F k⟩
theorem q_setO (l : Nat) (hi : G[i]? = some (.ow z)) (ha : EvA K t G a G) (hp : pre z a) (hl : ∀ z' : Car C, ((G.set i (.ow z'))[l]?).isSome = true) (ok : ∀ y z', R z a y z' → At K B S0 (u E) ((G.set i (.ow z')).set l (.im y))) :
    At K B S0 (tSeq (tAsg (tCall (spO K R pre) [] Ex (tCons (tVar i) t)) (gName l)) u E) G := fun S σ H F kn => by
  obtain ⟨h1, h2, dx, pv, sv, kf, kb, c⟩ := car_at kn hi
  refine ⟨.ref z.a, h1, ha B S0 S σ H F kn _ fun vs S1 H1 e1 k1 r1 => ?_⟩
  show spO K R pre (.ref z.a :: vs ++ []) H1 _ Ex
  rw [List.append_nil]
  obtain ⟨v1, h3, h4⟩ := k1.ow hi
  rw [h1] at h3
  cases h3
  exact ⟨S1, .ref z.a, vs, F i, z, a, rfl, k1.sub, h4, fun p hp => ⟨(k1.off i p hp).1, (k1.off i p hp).2.2⟩, r1, hp, fun v S2 H2 ps' y z' hR s1 s2 hk hc hl' ho r2 => ok y z' hR S2 _ H2 _ ((k1.moved hi h1 s1 s2 hk hc hl' ho).set r2 (hl z'))⟩
end
section
variable {P : Program} {w : World} {K : Fg} {mg : Str → Option Value} {base : Heap} {α β : Type} [Sls α] [Py β] {C : Addr} {Y : XC → Addr}
theorem body_spOX {N : List Str} {R : Car C → α → β → Car C → Prop} {Rf : Car C → α → XC → Prop} {pre : Car C → α → Prop} {t : TS} {H : Hp} {vs : List V} {Q : VK} {E : XK} (sp : spOX K Y R Rf pre vs H Q E)
    (h2 : ∀ (z : Car C) (a : α), pre z a → ∀ (B S0 : Hp) (Q : VK), (∀ (G' : List Sl) y (z' : Car C), G'[0]? = some (.ow z') → z'.a = z.a → R z a y z' → RT K B S0 Q y G') → (∀ (G' : List Sl) e, G'[0]? = some (.ow z) → Rf z a e → At K B S0 (fun _ H' => E (.ref (Y e)) none H') G') →
      At K B S0 (t { nx := fun _ H' => Q .non H', rt := Q }) (.ow z :: Sls.sls a ++ List.replicate (N.length - (PyA.n α + 1)) .no)) : t { nx := fun _ H' => Q .non H', rt := Q } (L2.start N vs) H := by
  obtain ⟨S', v0, ws, qs, z, a, e, es, ho, hqs, r, hp, q, qe⟩ := sp
  subst e
  refine h2 z a hp _ S' Q (fun G' y z' hz ea hR S1 σ1 H1 F1 v k1 r1 => ?_) (fun G' x hz hf S1 σ1 H1 F1 k1 => ?_) S' _ H _ (start_knM (N := N) es ho hqs r)
  · obtain ⟨v1, _, o1⟩ := k1.ow hz
    have ev : v1 = v0 := by rw [o1.1, ho.1, ea]
    rw [ev] at o1
    refine q v S1 H1 (F1 0) y z' hR k1.s0 k1.sub (fun p o m e => k1.keep p o (by rw [if_neg m]; exact e)) (fun p o m e => k1.clean p o (by rw [if_neg m]; exact e)) (fun p m => ?_) o1 r1
    obtain ⟨a1, a2, a3⟩ := k1.off 0 p m
    refine ⟨a1, a3, ?_⟩
    by_cases c : p ∈ qs
    · exact .inl c
    · rw [if_neg c] at a2
      exact .inr a2
  · obtain ⟨v1, _, o1⟩ := k1.ow hz
    have ev : v1 = v0 := by rw [o1.1, ho.1]
    have eq : F1 0 = qs := by rw [o1.2.1, ho.2.1]
    rw [ev, eq] at o1
    refine qe x S1 H1 hf k1.s0 k1.sub (fun p o m e => k1.keep p o (by rw [if_neg m]; exact e)) (fun p o m e => k1.clean p o (by rw [if_neg m]; exact e)) (fun p m => ?_) o1
    obtain ⟨a1, a2, a3⟩ := k1.off 0 p (by rw [eq]; exact m)
    exact ⟨a1, a3⟩
theorem mdef_spOX {x q : Str} {st : Stmt} {N ps : List Str} {k : Nat} {R : Car C → α → β → Car C → Prop} {Rf : Car C → α → XC → Prop} {pre : Car C → α → Prop} (D : MDef K C x q st ps) (S : FnScope N ps (defScope st)) (hn : PyA.n α + 1 = ps.length)
    (h : ∀ (fa : Addr) (cdv : Value) (A : Around) (outer : List Env) (s : Shared) (H : Hp) (E : XK), Room k (A.deeper (envOfC q (defScope st) s.heap.objs.size fa cdv)) →
      ∃ t, PSs (cxOf (L2.CX P w) P w K mg base N q (defScope st) fa cdv A outer s H E) (defBody st) t ∧
        ∀ (z : Car C) (a : α), pre z a → ∀ (B S0 : Hp) (Q : VK), (∀ (G' : List Sl) y (z' : Car C), G'[0]? = some (.ow z') → z'.a = z.a → R z a y z' → RT K B S0 Q y G') → (∀ (G' : List Sl) e, G'[0]? = some (.ow z) → Rf z a e → At K B S0 (fun _ H' => E (.ref (Y e)) none H') G') →
          At K B S0 (t { nx := fun _ H' => Q .non H', rt := Q }) (.ow z :: Sls.sls a ++ List.replicate (N.length - (PyA.n α + 1)) .no)) :
    MCalX P w K mg base (k + 1) C x ps (spOX K Y R Rf pre) := by
  obtain ⟨fa, fd, m, Fu, b⟩ := D.ex
  refine ⟨fa, fd, m, Fu.okX S (fun vs H Q E ⟨S, v0, ws, qs, z, a, e, _, _, _, r, _⟩ => by rw [e, List.length_cons, PyA.len r]; exact hn) fun cdv A outer s H vs Q E hr sp => ?_, b⟩
  obtain ⟨t, h1, h2⟩ := h fa cdv A outer s H E hr
  exact ⟨t, h1, body_spOX sp h2⟩
theorem def_spO {x : Str} {st : Stmt} {N ps : List Str} {k : Nat} {R : Car C → α → β → Car C → Prop} {pre : Car C → α → Prop} (D : Def K mg x st ps) (S : FnScope N ps (defScope st)) (hn : PyA.n α + 1 = ps.length)
    (h : ∀ (fa : Addr) (cdv : Value) (A : Around) (outer : List Env) (s : Shared) (H : Hp) (E : XK), Room k (A.deeper (envOfC x (defScope st) s.heap.objs.size fa cdv)) →
      ∃ t, PSs (cxOf CX0 P w K mg base N x (defScope st) fa cdv A outer s H E).nox (defBody st) t ∧
        ∀ (z : Car C) (a : α), pre z a → ∀ (B S0 : Hp) (Q : VK), (∀ (G' : List Sl) y (z' : Car C), G'[0]? = some (.ow z') → z'.a = z.a → R z a y z' → RT K B S0 Q y G') → At K B S0 (t { nx := fun _ H' => Q .non H', rt := Q }) (.ow z :: Sls.sls a ++ List.replicate (N.length - (PyA.n α + 1)) .no)) :
    Cal P w K mg base (k + 1) x ps (spO K R pre) := by
  obtain ⟨fa, fd, m, Fu, b⟩ := D.ex
  refine ⟨fa, fd, m, Fu.ok S (fun vs H Q E ⟨S, v0, ws, qs, z, a, e, _, _, _, r, _⟩ => by rw [e, List.length_cons, PyA.len r]; exact hn) fun cdv A outer s H vs Q E hr ⟨S', v0, ws, qs, z, a, e, es, ho, hqs, r, hp, q⟩ => ?_, Fu.kp, b⟩
  obtain ⟨t, h1, h2⟩ := h fa cdv A outer s H E hr
  exact ⟨t, h1, body_spOX (Y := fun _ => 0) (Rf := fun _ _ _ => False) (E := E) ⟨S', v0, ws, qs, z, a, e, es, ho, hqs, r, hp, q, fun _ _ _ f => f.elim⟩ fun z a hp B S0 Q hret _ => h2 z a hp B S0 Q hret⟩
end
end GL
namespace GL
open PySem PySem.Spec PyProof.Rows L2
section
variable {α τ : Type}
def EvW [Py α] (K : Fg) (te : TE) (G : List Sl) (R : τ → Prop) (x : τ → α) (st : τ → List Sl) : Prop :=
  ∀ B S0 S σ H F, Kn K B S0 S σ H F G → ∀ Q : VK, (∀ w, R w → ∀ v S' H', Same S S' → Kn K B S0 S' σ H' F (st w) → Py.rep K S' v (x w) → Q v H') → te σ H Q
def EvAW [PyA α] (K : Fg) (ta : TA) (G : List Sl) (R : τ → Prop) (x : τ → α) (st : τ → List Sl) : Prop :=
  ∀ B S0 S σ H F, Kn K B S0 S σ H F G → ∀ Q : List V → Hp → Prop, (∀ w, R w → ∀ vs S' H', Same S S' → Kn K B S0 S' σ H' F (st w) → PyA.rep K S' vs (x w) → Q vs H') → ta σ H Q
def EvLsW [Py α] (K : Fg) (ta : TA) (G : List Sl) (R : τ → Prop) (x : τ → List α) (st : τ → List Sl) : Prop :=
  ∀ B S0 S σ H F, Kn K B S0 S σ H F G → ∀ Q : List V → Hp → Prop, (∀ w, R w → ∀ vs S' H', Same S S' → Kn K B S0 S' σ H' F (st w) → RepL K S' vs (x w) → Q vs H') → ta σ H Q
end
def EvTW {τ : Type} (K : Fg) (tt : TT) (G : List Sl) (R : τ → Prop) (b : τ → Bool) (st : τ → List Sl) : Prop :=
  ∀ B S0 S σ H F, Kn K B S0 S σ H F G → ∀ Q : Bool → Hp → Prop, (∀ w, R w → ∀ S' H', Same S S' → Kn K B S0 S' σ H' F (st w) → Q (b w) H') → tt σ H Q
def spQ {α β : Type} [PyA α] [Py β] (K : Fg) (R : α → β → Prop) (pre : α → Prop) : Sp := fun vs H Q _ => ∃ (S : Hp) (a : α), Same S H ∧ PyA.rep K S vs a ∧ pre a ∧ ∀ y v S' H', Grow S H S' H' → R a y → Py.rep K S' v y → Q v H'
section
variable {K : Fg} {B S0 S1 S S' D : Hp} {σ : L2.St} {H H' : Hp} {F : Nat → List Addr} {G G' G1 G2 G3 : List Sl} {ta tb tc te : TE} {i j : Nat} {t u w : TS} {E : Ends} {tt : TT} {g : TG} {X : XK}
variable {α β γ τ τ2 : Type}
section
variable [Py α] [Py β] {R : τ → Prop} {x : τ → α} {st : τ → List Sl} {y : α}
theorem ew_rel {ω : Type} [Own ω] [Anch ω] [PyA γ] {R : γ → β → Prop} {pre : γ → Prop} {z z1 : ω} {a : γ} {t : TA} (j : Nat) (hj : G[j]? = some (.ow z)) (ha : EvA K t G a G1) (hj1 : G1[j]? = some (.ow z1)) (hp : pre a) :
    EvW K (tCall (spR (ω := ω) K ω R pre) [] X (tCons (tVar j) t)) G (fun w : β × ω => R a w.1 ∧ Anch.fp w.2 = Anch.fp z1) (fun w => w.1) (fun w => G1.set j (.ow w.2)) := fun B S0 S σ H F kn Q q => by
  obtain ⟨v0, h1, h2⟩ := kn.ow hj
  refine ⟨v0, h1, ha B S0 S σ H F kn _ fun vs S1 H1 e1 k1 r1 => ?_⟩
  show spR (ω := ω) K ω R pre (v0 :: vs ++ []) H1 _ X
  rw [List.append_nil]
  obtain ⟨v1, h3, h4⟩ := k1.ow hj1
  rw [h1] at h3
  cases h3
  refine ⟨S1, v0, vs, F j, z1, a, rfl, k1.sub, h4, fun p hp => ⟨(k1.off j p hp).1, (k1.off j p hp).2.2⟩, r1, hp, fun v S2 H2 y z' hR hfp s1 s2 hk hc hl ho r2 => ?_⟩
  have hH : ∀ p o, p ∉ F j → H1 p = some o → H2 p = some o := hk
  refine q (y, z') ⟨hR, hfp⟩ v S2 H2 (e1.trans s1) ?_ r2
  refine ⟨k1.s0.trans s1, s2, fun p o e => ?_, fun p o e => (hc p o (k1.keep p o e)).trans (k1.clean p o e), fun i p hp => ?_, k1.dj, by rw [List.length_set]; exact k1.len, fun i s e => ?_⟩
  · exact hH p o (fun m => by rw [(k1.off j p m).2.1] at e; cases e) (k1.keep p o e)
  · obtain ⟨a1, a2, o, a3⟩ := k1.off i p hp
    refine ⟨(hc p o a3).trans a1, a2, ?_⟩
    by_cases m : p ∈ F j
    · exact hl p m
    · exact ⟨o, hH p o m a3⟩
  · rcases set_get e with ⟨rfl, rfl⟩ | ⟨ne, e⟩
    · exact ⟨v0, h1, ho⟩
    · have w := k1.sl i s e
      cases s with
      | no => exact True.intro
      | im y =>
        obtain ⟨u, b1, b2⟩ := w
        exact ⟨u, b1, Py.mono s1 b2⟩
      | ow y =>
        obtain ⟨u, b1, b2⟩ := w
        refine ⟨u, b1, Own.mono s1 (fun p hp => ?_) b2⟩
        obtain ⟨_, _, o, a3⟩ := k1.off i p hp
        rw [a3]
        exact hH p o (fun m => ne (k1.dj i j p hp m)) a3
theorem eaw_last (h : EvW K ta G R x st) : EvAW K (tCons ta tNil) G R (fun w => (x w, ())) st := fun B S0 S σ H F k Q q =>
  h B S0 S σ H F k _ fun w hw v S1 H1 e1 k1 r1 => q w hw [v] S1 H1 e1 k1 ⟨v, [], rfl, r1, rfl⟩
theorem eaw_cons [PyA γ] {R : τ → Prop} {x : τ → γ} {tr : TA} (h : EvX K ta G y G1) (hr : EvAW K tr G1 R x st) : EvAW K (tCons ta tr) G R (fun w => (y, x w)) st := fun B S0 S σ H F k Q q =>
  h B S0 S σ H F k _ fun v S1 H1 e1 k1 r1 => hr B S0 S1 σ H1 F k1 _ fun w hw vs S2 H2 e2 k2 r2 => q w hw (v :: vs) S2 H2 (e1.trans e2) k2 ⟨v, vs, rfl, Py.mono e2 r1, r2⟩
theorem ew_call [PyA γ] {R : τ → Prop} {x : τ → γ} {f : γ → β} {pre : γ → Prop} {t : TA} (ha : EvAW K t G R x st) (hp : ∀ w, R w → pre (x w)) : EvW K (tCall (spF K f pre) [] X t) G R (fun w => f (x w)) st := fun B S0 S σ H F k Q q =>
  ha B S0 S σ H F k _ fun w hw vs S1 H1 e1 k1 r1 => by
    show spF K f pre (vs ++ []) H1 _ X
    rw [List.append_nil]
    exact ⟨S1, x w, k1.sub, r1, hp w hw, fun v S2 H2 g r2 => q w hw v S2 H2 (e1.trans g.s) (k1.grow g) r2⟩
theorem etw_B {b : τ → Bool} (h : EvW K te G R b st) : EvTW K (tB te) G R b st := fun B S0 S σ H F k Q q => h B S0 S σ H F k _ fun w hw v S1 H1 e1 k1 r1 => ⟨b w, r1, q w hw S1 H1 e1 k1⟩
theorem etw_not {b : τ → Bool} (h : EvTW K tt G R b st) : EvTW K (tNot tt) G R (fun w => !b w) st := fun B S0 S σ H F k Q q => h B S0 S σ H F k _ fun w hw S1 H1 e1 k1 => q w hw S1 H1 e1 k1
theorem q_ifW {b : τ → Bool} (h : EvTW K tt G R b st) (h1 : ∀ z, R z → b z = true → At K B S0 (t { E with nx := u E }) (st z)) (h2 : ∀ z, R z → b z = false → At K B S0 (w { E with nx := u E }) (st z)) : At K B S0 (tSeq (tIfS tt t w) u E) G := fun S σ H F kn =>
  h B S0 S σ H F kn _ fun z hz S' H' e kn' => by
    have a1 := h1 z hz
    have a2 := h2 z hz
    revert a1 a2
    cases b z with
    | true => exact fun a1 _ => a1 rfl S' σ H' F kn'
    | false => exact fun _ a2 => a2 rfl S' σ H' F kn'
theorem q_ifWF {b : τ → Bool} (h : EvTW K tt G R b st) (h1 : ∀ z, R z → b z = false) (h2 : ∀ z, R z → At K B S0 (u E) (st z)) : At K B S0 (tSeq (tIfS tt t tNext) u E) G :=
  q_ifW h (fun z hz e => by rw [h1 z hz] at e; cases e) fun z hz _ => h2 z hz
end
end
section
variable {P : Program} {w : World} {K : Fg} {mg : Str → Option Value} {base : Heap} {α β : Type} [Sls α] [Py β]
end
end GL
namespace GL
open PySem PySem.Spec PyProof.Rows L2
section
variable {K : Fg} {G : List Sl} {te : TE} {α τ : Type} [Py α]
theorem EvW.dat [ToD α] {R : τ → Prop} {x : τ → α} {st : τ → List Sl} (h : EvW K te G R x st) : EvW K te G R (fun w => ToD.dat (x w)) st := fun B S0 S σ H F k Q q => h B S0 S σ H F k Q fun w hw v S' H' e k' r => q w hw v S' H' e k' (ToD.of r)
end
end GL
namespace GL
open PySem PySem.Spec PyProof.Rows L2
section
variable {K : Fg} {G : List Sl} {te : TE} {τ : Type} {R : τ → Prop} {x : τ → Bool} {st : τ → List Sl} {c : Bool}
end
end GL
namespace GL
open PySem PySem.Spec PyProof.Rows L2
section
variable {K : Fg} {B S0 S1 S S' D : Hp} {σ : L2.St} {H H' : Hp} {F : Nat → List Addr} {G G' G1 G2 : List Sl} {ta tb te : TE} {t u : TS} {E : Ends} {i j : Nat} {Y : XC → Addr} {α : Type}
theorem q_try (h : At K B S0 (t { E with nx := u E }) G) : At K B S0 (tSeq t u E) G := h
structure Wd where
  w : Str
  n : List Int
instance : Py Wd := ⟨fun K S v x => ∃ p, v = .ref p ∧ SqT K S p (.str x.w :: x.n.map V.int), fun e ⟨p, h1, h2⟩ => ⟨p, h1, seqT e h2⟩⟩
instance : Inhabited Wd := ⟨⟨Str.empty, []⟩⟩
end
end GL
namespace GL
open PySem PySem.Spec PyProof.Rows L2
class NoLF (α : Type) [Py α] [PyF α] : Prop where
  go : ∀ {K : Fg} {D S : Hp} {p : Addr} {us : List V} {o : HO} {v : V} {x : α}, D p = some o → S p = some (.lst us) → PyF.repF K D S v x → PyF.repF K D (del S p) v x
section
variable {α β γ : Type} [Py α] [Py β] [Py γ]
instance : NoLF Int := ⟨fun _ _ h => h⟩
instance : NoLF Bool := ⟨fun _ _ h => h⟩
instance : NoLF Str := ⟨fun _ _ h => h⟩
instance : NoLF Unit := ⟨fun _ _ h => h⟩
instance [NoL α] : NoLF (Tp α) := ⟨fun {K D S p us o v x} _ h r => (inferInstance : NoL (Tp α)).go (v := v) (x := x) h r⟩
instance [NoL α] : NoLF (List α) := ⟨fun {K D S p us o v x} hd hs ⟨⟨q, vs, h1, h2, h3⟩, q', h4, h5⟩ => ⟨⟨q, vs, h1, by
  have ne : q ≠ p := fun z => by
    rw [h1] at h4
    cases h4
    rw [z, hd] at h5
    cases h5
  rw [del_ne ne]
  exact h2, nlAll hs h3⟩, q', h4, h5⟩⟩
instance [PyF α] [PyF β] [NoLF α] [NoLF β] : NoLF (α × β) := ⟨fun {K D S p us o v x} hd hs ⟨a, b, c, h1, h2, h3, h4⟩ => ⟨a, b, c, h1, nlT hs h2, NoLF.go hd hs h3, NoLF.go hd hs h4⟩⟩
instance [PyF α] [PyF β] [PyF γ] [NoLF α] [NoLF β] [NoLF γ] : NoLF (T3 α β γ) := ⟨fun {K D S p us o v x} hd hs ⟨a, b, c, d, h1, h2, h3, h4, h5⟩ => ⟨a, b, c, d, h1, nlT hs h2, NoLF.go hd hs h3, NoLF.go hd hs h4, NoLF.go hd hs h5⟩⟩
end
section
variable {K : Fg} {B S0 S1 S S' D : Hp} {σ : L2.St} {H H' : Hp} {F : Nat → List Addr} {G G' G1 G2 : List Sl} {ta tb te : TE} {t u : TS} {E : Ends} {Ex : XK} {i j : Nat} {α β δ : Type}
def EvAL [Py δ] [PyA α] (K : Fg) (i : Nat) (d : List δ) (ta : TA) (G : List Sl) (x : α) (G' : List Sl) : Prop :=
  ∀ B S0 S σ H F, Kn K B S0 S σ H F G → ∀ Q : List V → Hp → Prop, (∀ vs S' H', Same S S' → Kn K B S0 S' σ H' F G' → (∀ p us, σ[i]? = some (some (.ref p)) → RepL K S' us d → S' p = none → PyA.rep K (upd S' p (.lst us)) vs x) → Q vs H') → ta σ H Q
end
end GL
namespace GL
open PySem PySem.Spec PyProof.Rows L2
theorem filter_pre {l : Lets} {now : Int} (hs : (l.map (·.1)).Pairwise (· ≤ ·)) : l.filter (fun x => decide (x.1 ≤ now)) = l.take (l.filter (fun x => decide (x.1 ≤ now))).length := by
  induction l with
  | nil => rfl
  | cons y l ih =>
    rw [List.map_cons, List.pairwise_cons] at hs
    by_cases h : y.1 ≤ now
    · rw [List.filter_cons, if_pos (by simp; exact h), List.length_cons, List.take_succ_cons, ← ih hs.2]
    · have e : (y :: l).filter (fun x => decide (x.1 ≤ now)) = [] := by
        rw [List.filter_eq_nil_iff]
        intro x hx
        rcases List.mem_cons.mp hx with e | e
        · rw [e]; simp; omega
        · have := hs.1 x.1 (List.mem_map.mpr ⟨x, e, rfl⟩)
          simp
          omega
      rw [e]; rfl
theorem used_nn (g : Prog) (s : Stand) (l : Lets) (xs : List Int) : 0 ≤ (runF g s l xs).1 := by
  refine rev_indU (P := fun xs => 0 ≤ (runF g s l xs).1) ?_ (fun xs n ih => ?_) xs
  · rw [run_nil]; exact Int.le_refl _
  · rw [run_snoc, runStep_used]; split <;> omega
theorem used_ok {g : Prog} {s : Stand} {l : Lets} (hs : (l.map (·.1)).Pairwise (· ≤ ·)) (n : Nat) : (runF g s l (rng 0 n)).1 ≤ l.length ∧ ∀ x ∈ l.take (runF g s l (rng 0 n)).1.toNat, x.1 < n := by
  induction n with
  | zero =>
    rw [rng_nil (by omega), run_nil]
    exact ⟨by dsimp only; omega, by simp⟩
  | succ n ih =>
    have e : ((n + 1 : Nat) : Int) = (n : Int) + 1 := by omega
    rw [e, rng_succ (by omega), run_snoc, runStep_used]
    have h0 := used_nn g s l (rng 0 n)
    generalize hu : (runF g s l (rng 0 n)).1 = u at *
    by_cases hk : decide ((tickM g (runF g s l (rng 0 ↑n)).2.1 ((availM l ↑n).drop u.toNat)).b = Str.ofString "took") = true
    · rw [if_pos hk]
      have hne := List.length_pos_iff.mpr (took_ne hk)
      rw [List.length_drop] at hne
      have hf := filter_pre (l := l) (now := n) hs
      have hc : (availM l n).length = (l.filter (fun x => decide (x.1 ≤ (n : Int)))).length := by unfold availM; rw [List.length_map]
      have hle := List.length_filter_le (fun x : Int × Int => decide (x.1 ≤ (n : Int))) l
      refine ⟨by omega, fun x hx => ?_⟩
      have hx2 : x ∈ l.take (l.filter (fun x => decide (x.1 ≤ (n : Int)))).length := (List.take_sublist_take_left (show (u + 1).toNat ≤ _ by omega)).mem hx
      rw [← hf] at hx2
      have := of_decide_eq_true (List.mem_filter.mp hx2).2
      omega
    · rw [if_neg hk, Int.add_zero]
      exact ⟨ih.1, fun x hx => by have := ih.2 x hx; omega⟩
@[irreducible] def restM (l : Lets) (at_ used : Int) : Lets := (cutL l (some used) none).map (fun x => (max 0 (x.1 - at_), x.2))
end GL
namespace GL
open PySem PySem.Spec PyProof.Rows L2
variable {C : Addr}
def letStep (now : Int) (z : Car C) (x : Int × Int) : Car C := if decide (x.1 = now) = true then letterC z x.2 else z
def cpyStep (now : Int) (z : Car C) (x : Int × Int) : Car C := if decide (x.1 = now) = true then copyC z x.2 else z
theorem lets_fold (now : Int) : ∀ (l : Lets) (z : Car C), l.foldl (letStep now) z = { z with wait := z.wait ++ (l.filter fun x => decide (x.1 = now)).map (·.2) }
  | [], z => by simp
  | x :: l, z => by
    rw [List.foldl_cons, lets_fold now l]
    unfold letStep
    by_cases e : x.1 = now
    · rw [if_pos (by simpa using e), List.filter_cons, if_pos (by simpa using e)]
      unfold letterC
      simp
    · rw [if_neg (by simpa using e), List.filter_cons, if_neg (by simpa using e)]
structure Cpd (now : Int) (l : List (Int × Int)) (z z' : Car C) : Prop where
  g : z'.g = z.g
  st : z'.st = z.st
  wait : z'.wait = z.wait
  said : z'.said = z.said
  done : z'.done = z.done
  goal : z'.goal = z.goal
  still : z'.still = z.still
  ab : z'.absent = z.absent
  pl : z'.place = z.place
  ho : z'.houses = z.houses
  made : z'.made = z.made + ((l.filter fun c => decide (c.1 = now)).length : Int)
  fr : ∀ p, (z'.fresh.get? p).isSome = (decide ((now, p) ∈ l) || (z.fresh.get? p).isSome)
  fl : (z'.fresh.l.length : Int) ≤ z.fresh.l.length + ((l.filter fun c => decide (c.1 = now)).length : Int)
theorem cpy_fold (now : Int) (l : List (Int × Int)) (z : Car C) : Cpd now l z (l.foldl (cpyStep now) z) := by
  refine rev_indU (P := fun l => Cpd now l z (l.foldl (cpyStep now) z)) ⟨rfl, rfl, rfl, rfl, rfl, rfl, rfl, rfl, rfl, rfl, by simp, fun p => by simp, by simp⟩ (fun l x ih => ?_) l
  rw [List.foldl_append, List.foldl_cons, List.foldl_nil]
  generalize l.foldl (cpyStep now) z = y at ih ⊢
  obtain ⟨h1, h2, h3, h4, h5, h6, h7, h8, h9, h10, h11, h12, h13⟩ := ih
  unfold cpyStep
  by_cases e : x.1 = now
  · rw [if_pos (by simpa using e)]
    unfold copyC
    have hlen : ((l ++ [x]).filter fun c => decide (c.1 = now)).length = (l.filter fun c => decide (c.1 = now)).length + 1 := by
      rw [List.filter_append, List.length_append, List.filter_cons, if_pos (by simpa using e)]
      rfl
    refine ⟨h1, h2, h3, h4, h5, h6, h7, h8, h9, h10, ?_, fun p => ?_, ?_⟩
    · show y.made + 1 = _
      rw [h11, hlen]
      omega
    · show ((y.fresh.put x.2 true).get? p).isSome = _
      rw [Dct.get?_put]
      by_cases q : p = x.2
      · rw [if_pos q]
        have : (now, p) ∈ l ++ [x] := by rw [← e, q]; simp
        rw [decide_eq_true this]; rfl
      · rw [if_neg q, h12 p]
        have : ((now, p) ∈ l ++ [x]) ↔ (now, p) ∈ l := by
          rw [List.mem_append, List.mem_singleton]
          exact ⟨fun h => h.elim id fun h => absurd (congrArg Prod.snd h) q, .inl⟩
        rw [decide_eq_decide.mpr this]
    · have := put_len (d := y.fresh) (k := x.2) (x := true)
      show ((y.fresh.put x.2 true).l.length : Int) ≤ _
      rw [hlen]
      omega
  · rw [if_neg (by simpa using e)]
    have hlen : ((l ++ [x]).filter fun c => decide (c.1 = now)) = (l.filter fun c => decide (c.1 = now)) := by
      rw [List.filter_append, List.filter_cons, if_neg (by simpa using e), List.filter_nil, List.append_nil]
    refine ⟨h1, h2, h3, h4, h5, h6, h7, h8, h9, h10, by rw [hlen]; exact h11, fun p => ?_, by rw [hlen]; exact h13⟩
    have : ((now, p) ∈ l ++ [x]) ↔ (now, p) ∈ l := by
      rw [List.mem_append, List.mem_singleton]
      exact ⟨fun h => h.elim id fun h => absurd (congrArg Prod.fst h).symm e, .inl⟩
    rw [h12 p, decide_eq_decide.mpr this]
theorem tks_next {cps : List (Int × Int)} {t p x : Int} (ht : 0 ≤ t) : x ∈ tks cps (t + 1) p ↔ x ∈ tks cps t p ∨ (x = t ∧ (t, p) ∈ cps) := by
  unfold tks inT
  simp only [List.mem_map, List.mem_filter, Bool.and_eq_true, decide_eq_true_eq]
  constructor
  · rintro ⟨c, ⟨hc, h1, h2, h3⟩, rfl⟩
    by_cases e : c.1 = t
    · right; exact ⟨e, by rw [← e, ← h1]; exact hc⟩
    · left; exact ⟨c, ⟨hc, h1, h2, by omega⟩, rfl⟩
  · rintro (⟨c, ⟨hc, h1, h2, h3⟩, rfl⟩ | ⟨rfl, hc⟩)
    · exact ⟨c, ⟨hc, h1, h2, by omega⟩, rfl⟩
    · exact ⟨(x, p), ⟨hc, rfl, ht, by omega⟩, rfl⟩
theorem tks_lt {cps : List (Int × Int)} {t p x : Int} (h : x ∈ tks cps t p) : 0 ≤ x ∧ x < t := by
  unfold tks inT at h
  simp only [List.mem_map, List.mem_filter, Bool.and_eq_true, decide_eq_true_eq] at h
  obtain ⟨c, ⟨_, _, h2, h3⟩, rfl⟩ := h
  exact ⟨h2, h3⟩
theorem lf_iff {T : List (Tp Int)} {cps : List (Int × Int)} {t p : Int} : lfT T cps t p = false ↔ ∃ x ∈ tks cps t p, lastW T t p < x := by
  unfold lfT
  rw [Bool.or_eq_false_iff, decide_eq_false_iff_not, decide_eq_false_iff_not]
  constructor
  · rintro ⟨h1, h2⟩
    exact ⟨maxL (tks cps t p), maxL_mem h1, by omega⟩
  · rintro ⟨x, hx, h⟩
    refine ⟨fun e => ?_, ?_⟩
    · rw [e] at hx; cases hx
    · have := le_maxL hx
      omega
theorem lf_next {T : List (Tp Int)} {cps : List (Int × Int)} {t p : Int} (ht : 0 ≤ t) : (!lfT T cps (t + 1) p) = ((decide ((t, p) ∈ cps) || !lfT T cps t p) && !decide (p ∈ (T.getD t.toNat ⟨[]⟩).l)) := by
  have key : lfT T cps (t + 1) p = false ↔ (((t, p) ∈ cps ∨ lfT T cps t p = false) ∧ p ∉ (T.getD t.toNat ⟨[]⟩).l) := by
    rw [lf_iff, lf_iff, lastW_next ht]
    by_cases hw : p ∈ (T.getD t.toNat ⟨[]⟩).l
    · rw [if_pos hw]
      constructor
      · rintro ⟨x, hx, h⟩
        have := tks_lt hx
        omega
      · rintro ⟨_, h⟩
        exact absurd hw h
    · rw [if_neg hw]
      constructor
      · rintro ⟨x, hx, h⟩
        refine ⟨?_, hw⟩
        rcases (tks_next ht).mp hx with q | q
        · exact .inr ⟨x, q, h⟩
        · exact .inl q.2
      · rintro ⟨q | ⟨x, hx, h⟩, _⟩
        · exact ⟨t, (tks_next ht).mpr (.inr ⟨rfl, q⟩), lastW_lt ht⟩
        · exact ⟨x, (tks_next ht).mpr (.inl hx), h⟩
  cases h1 : lfT T cps (t + 1) p with
  | false =>
    obtain ⟨q, hw⟩ := key.mp h1
    rw [decide_eq_false hw]
    rcases q with q | q
    · rw [decide_eq_true q]; rfl
    · rw [q]; simp
  | true =>
    by_cases hw : p ∈ (T.getD t.toNat ⟨[]⟩).l
    · rw [decide_eq_true hw]; simp
    · have hn : ¬ ((t, p) ∈ cps ∨ lfT T cps t p = false) := fun q => by
        have := key.mpr ⟨q, hw⟩
        rw [h1] at this
        cases this
      have h2 : lfT T cps t p = true := by
        cases e : lfT T cps t p with
        | true => rfl
        | false => exact absurd (.inr e) hn
      rw [decide_eq_false (fun q => hn (.inl q)), h2]
      rfl
theorem inT_next {cps : List (Int × Int)} {t : Int} (ht : 0 ≤ t) : (cps.filter fun c => inT (t + 1) c.1).length = (cps.filter fun c => inT t c.1).length + (cps.filter fun c => decide (c.1 = t)).length := by
  induction cps with
  | nil => rfl
  | cons c cps ih =>
    rw [List.filter_cons, List.filter_cons, List.filter_cons]
    have hi : inT (t + 1) c.1 = (inT t c.1 || decide (c.1 = t)) := by
      unfold inT
      by_cases h0 : 0 ≤ c.1 <;> by_cases h1 : c.1 < t <;> by_cases h2 : c.1 = t <;> simp [h0, h1, h2] <;> omega
    rw [hi]
    by_cases h1 : inT t c.1 = true
    · have h2 : ¬ c.1 = t := by
        unfold inT at h1
        simp only [Bool.and_eq_true, decide_eq_true_eq] at h1
        omega
      rw [h1, decide_eq_false h2]
      simp
      omega
    · have h1' : inT t c.1 = false := by simpa using h1
      by_cases h2 : c.1 = t
      · rw [h1', decide_eq_true h2]
        simp
        omega
      · rw [h1', decide_eq_false h2]
        simp
        omega
theorem avail_now {l : Lets} {t : Int} (hs : (l.map (·.1)).Pairwise (· ≤ ·)) : availM l t = availM l (t - 1) ++ (l.filter fun x => decide (x.1 = t)).map (·.2) := by
  unfold availM
  rw [← List.map_append]
  congr 1
  induction l with
  | nil => rfl
  | cons x l ih =>
    rw [List.map_cons, List.pairwise_cons] at hs
    rw [List.filter_cons, List.filter_cons, List.filter_cons, ih hs.2]
    by_cases h1 : x.1 ≤ t - 1
    · rw [if_pos (by simp; omega), if_pos (by simp; omega), if_neg (by simp; omega)]
      rfl
    · have hn : l.filter (fun x => decide (x.1 ≤ t - 1)) = [] := by
        rw [List.filter_eq_nil_iff]
        intro y hy
        have := hs.1 y.1 (List.mem_map.mpr ⟨y, hy, rfl⟩)
        simp
        omega
      by_cases h2 : x.1 = t
      · rw [if_pos (by simp; omega), if_neg (by simp; omega), if_pos (by simpa using h2), hn]
        rfl
      · rw [if_neg (by simp; omega), if_neg (by simp; omega), if_neg (by simpa using h2)]
theorem used_le {g : Prog} {s : Stand} {l : Lets} {t : Int} (hs : (l.map (·.1)).Pairwise (· ≤ ·)) (ht : 0 ≤ t) : (runF g s l (rng 0 t)).1.toNat ≤ (availM l (t - 1)).length := by
  have h := used_ok (g := g) (s := s) hs t.toNat
  rw [show ((t.toNat : Nat) : Int) = t by omega] at h
  have h0 := used_nn g s l (rng 0 t)
  generalize (runF g s l (rng 0 t)).1 = u at *
  have hf : (l.take u.toNat).filter (fun x => decide (x.1 ≤ t - 1)) = l.take u.toNat := by
    rw [List.filter_eq_self]
    intro x hx
    have := h.2 x hx
    simp
    omega
  have h2 : ((l.take u.toNat).filter (fun x => decide (x.1 ≤ t - 1))).length ≤ (l.filter (fun x => decide (x.1 ≤ t - 1))).length := ((List.take_sublist _ _).filter _).length_le
  rw [hf, List.length_take] at h2
  unfold availM
  rw [List.length_map]
  omega
structure LIC (g : Prog) (s : Stand) (l : Lets) (cps : List (Int × Int)) (T : List (Tp Int)) (t : Int) (z : Car C) : Prop where
  run : CarRun g s l t (t - 1) z
  goal : z.goal = some 1
  still : z.still = false
  ab : z.absent.l = []
  pl : z.place = 0
  made : z.made = ((cps.filter fun c => inT t c.1).length : Int)
  fr : ∀ p, (z.fresh.get? p).isSome = !lfT T cps t p
  fl : (z.fresh.l.length : Int) ≤ z.made
theorem tks_zero (cps : List (Int × Int)) (p : Int) : tks cps 0 p = [] := by
  cases h : tks cps 0 p with
  | nil => rfl
  | cons x l =>
    have := tks_lt (cps := cps) (t := 0) (p := p) (x := x) (by rw [h]; exact List.mem_cons_self)
    omega
theorem LIC.start {g : Prog} {s : Stand} {l : Lets} {cps : List (Int × Int)} {T : List (Tp Int)} {z z' : Car C} (h : ∃ a w s_ f b, z = Car.mk a w s_ f b g s 2 0 [] [] 0 none false Dct.emp 0 Dct.emp) (hb : BegR z 1 z') (hl : ∀ x ∈ l, 0 ≤ x.1) : LIC g s l cps T 0 z' := by
  obtain ⟨a, w, s_, f, b, rfl⟩ := h
  obtain ⟨f', rfl⟩ := hb
  have ha : availM l (0 - 1) = [] := by
    unfold availM
    rw [List.map_eq_nil_iff, List.filter_eq_nil_iff]
    intro x hx
    have := hl x hx
    simp
    omega
  refine ⟨⟨rfl, by rw [rng_nil (Int.le_refl _), run_nil], by rw [ha]; simp, rfl, by simp⟩, rfl, rfl, rfl, rfl, ?_, fun p => ?_, by simp [Dct.emp]⟩
  · have : (cps.filter fun c => inT 0 c.1) = [] := by
      rw [List.filter_eq_nil_iff]
      intro c _
      unfold inT
      simp
    rw [this]
    rfl
  · have : lfT T cps 0 p = true := by unfold lfT; rw [tks_zero]; rfl
    rw [this]
    rfl
theorem LIC.next {g : Prog} {s : Stand} {l : Lets} {cps : List (Int × Int)} {T : List (Tp Int)} {t : Int} {z : Car C} (hg : ProgOk g) (hs : StandOk g s) (hl : LetsOk g l) (ht : 0 ≤ t) (h : LIC g s l cps T t z)
    (hT : T.getD t.toNat ⟨[]⟩ = (tickM g (runF g s l (rng 0 t)).2.1 ((availM l t).drop (runF g s l (rng 0 t)).1.toNat)).e) : LIC g s l cps T (t + 1) (tickC (cps.foldl (cpyStep t) (l.foldl (letStep t) z))).2 ∧ CarRun g s l t t (cps.foldl (cpyStep t) (l.foldl (letStep t) z)) := by
  obtain ⟨h1, h2, h3, h4, h5, h6, h7, h8⟩ := h
  rw [lets_fold]
  obtain ⟨c1, c2, c3, c4, c5, c6, c7, c8, c9, c10, c11, c12, c13⟩ := cpy_fold t cps ({ z with wait := z.wait ++ (l.filter fun x => decide (x.1 = t)).map (·.2) } : Car C)
  generalize cps.foldl (cpyStep t) ({ z with wait := z.wait ++ (l.filter fun x => decide (x.1 = t)).map (·.2) } : Car C) = y at *
  dsimp only at c1 c2 c3 c4 c5 c6 c7 c8 c9 c10 c11 c12 c13
  have hr : CarRun g s l t t y := by
    refine ⟨c1.trans h1.gg, c2.trans h1.st, ?_, c5.trans h1.done, by rw [c4]; exact h1.sl⟩
    rw [c3, h1.wait, avail_now (t := t) hl.srt, List.drop_append_of_le_length (used_le hl.srt ht)]
  have e : tickM y.g y.st y.wait = tickM g (runF g s l (rng 0 t)).2.1 ((availM l t).drop (runF g s l (rng 0 t)).1.toNat) := by rw [hr.gg, hr.st, hr.wait]
  have hab : y.absent.l = [] := by rw [c8]; exact h4
  refine ⟨?_, hr⟩
  rw [tickC_goes (c7.trans h3) (noLack_lks (noLack_emp hab))]
  have hw := hr.went ht (run_ok hg hs hl _).2
  refine ⟨by rw [show t + 1 - 1 = t by omega]; exact hw, c6.trans h2, c7.trans h3, ?_, c9.trans h5, ?_, fun p => ?_, ?_⟩
  · show ((tickM y.g y.st y.wait).e.l.foldl Dct.del y.absent).l = []
    have := dels_len (tickM y.g y.st y.wait).e.l y.absent
    rw [hab] at this
    exact List.eq_nil_of_length_eq_zero (by simpa using this)
  · show y.made = _
    rw [c11, h6, inT_next ht]
    omega
  · show (((tickM y.g y.st y.wait).e.l.foldl Dct.del y.fresh).get? p).isSome = _
    rw [get?_delL, lf_next ht, ← h7 p, ← c12 p, e, hT]
    by_cases q : p ∈ (tickM g (runF g s l (rng 0 t)).2.1 ((availM l t).drop (runF g s l (rng 0 t)).1.toNat)).e.l
    · rw [if_pos q, decide_eq_true q]; simp
    · rw [if_neg q, decide_eq_false q]; simp
  · show (((tickM y.g y.st y.wait).e.l.foldl Dct.del y.fresh).l.length : Int) ≤ y.made
    have := dels_len (tickM y.g y.st y.wait).e.l y.fresh
    omega
def trcM (g : Prog) (s : Stand) (l : Lets) (many : Int) : List (Tp Int) := (runM g s l many).c.map fun x => x.2
theorem LIC.left {g : Prog} {s : Stand} {l : Lets} {cps : List (Int × Int)} {T : List (Tp Int)} {t : Int} {z : Car C} (h : LIC g s l cps T t z) : lfM z = leftM g.a T (cps, t) := by
  rw [left_eq]
  unfold lfM
  rw [h.run.gg]
  exact List.filter_congr fun p _ => by rw [h.fr p, Bool.not_not]
end GL
namespace GL
open PySem PySem.Spec PyProof.Rows L2
end GL
namespace GL
open PySem PySem.Spec PyProof.Rows L2
variable {C : Addr}
end GL
namespace GL
open PySem PySem.Spec PyProof.Rows L2
instance {α β : Type} [Py α] [Py β] [PyF α] [PyF β] [PyT α] [PyT β] : PyT (α × β) := ⟨fun ⟨p, a, b, h1, h2, h3, h4⟩ => ⟨p, a, b, h1, h2, PyT.of h3, PyT.of h4⟩⟩
section
variable {K : Fg} {B S0 : Hp} {G G1 : List Sl} {α β γ δ : Type} [PyA α] [Py β] [PyF β] [Py γ] [PyF γ] [Py δ] [PyF δ] {f : α → T3 β γ δ} {pre : α → Prop} {a : α} {t : TA} {E : XK} {D : Ends}
theorem q_retN2 (ha : EvA K t G a G1) (hp : pre a) (k : ∀ y : β × γ, y = ((f a).a, (f a).b) → RT K B S0 D.rt (Fx.mk B y) G1) : At K B S0 (tSeq (tRet (tSl (rSlA K) (tCall (spN K f pre) [] E t) tNoPart (tPart (tC (.int 2))))) u D) G := fun S σ H F kn =>
  ha B S0 S σ H F kn _ fun vs S1 H1 e1 k1 r1 => by
    show spN K f pre (vs ++ []) H1 _ E
    rw [List.append_nil]
    refine ⟨S1, a, k1.sub, r1, hp, fun v S2 H2 g r2 => ?_⟩
    have k2 := k1.grow g
    obtain ⟨p, x, y, z, rfl, hp, h1, h2, h3⟩ := PyF.anti k1.keep r2
    refine ⟨2, rfl, p, _, rfl, seqT k2.sub hp, fun hw => absurd (show HT.sIx 3 3 (some 2) = 3 from hw.2) (by decide), fun _ l hl => ?_⟩
    exact k _ rfl _ σ _ F _ (k2.new hl) ⟨l, x, y, rfl, .inl (.inl (by simp [upd]; rfl)), PyF.mono (same_new (k2.free hl).1) h1, PyF.mono (same_new (k2.free hl).1) h2⟩
theorem q_retN3 (ha : EvA K t G a G1) (hp : pre a) (k : ∀ y : δ, y = (f a).c → RT K B S0 D.rt (Fx.mk B y) G1) : At K B S0 (tSeq (tRet (tOp (rIxT K) (tCall (spN K f pre) [] E t) (tC (.int 2)))) u D) G := fun S σ H F kn =>
  ha B S0 S σ H F kn _ fun vs S1 H1 e1 k1 r1 => by
    show spN K f pre (vs ++ []) H1 _ E
    rw [List.append_nil]
    refine ⟨S1, a, k1.sub, r1, hp, fun v S2 H2 g r2 => ?_⟩
    have k2 := k1.grow g
    obtain ⟨p, x, y, z, rfl, hp, h1, h2, h3⟩ := PyF.anti k1.keep r2
    exact ⟨p, _, 2, z, rfl, rfl, seqT k2.sub hp, atI_nat (j := 2) rfl, k _ rfl _ σ _ F _ k2 h3⟩
end
end GL
namespace GL
open PySem PySem.Spec PyProof.Rows L2
variable {C : Addr}
theorem no_isSome {g : Option Int} (h : g.isNone = false) : g.isSome = true := by
  cases g <;> simp_all
instance : ToD Tw := ⟨fun x => .tup (.str x.w :: x.r.map ToD.dat), fun {K S v x} ⟨p, h1, h2⟩ => by
  rw [h1]
  refine .tup h2 (.cons (.str _) ?_)
  have : ∀ l : List (Option Int), DRepL K S (l.map oV) (l.map ToD.dat) := fun l => by
    induction l with
    | nil => exact .nil
    | cons a l ih => exact .cons (ToD.of (rep_oV a)) ih
  exact this x.r⟩
def CallOk (g : Prog) (houses : Int) (c : Wd) : Prop := c = ⟨Str.ofString "tick", []⟩ ∨ c = ⟨Str.ofString "stop", []⟩ ∨ c = ⟨Str.ofString "end", []⟩ ∨ c = ⟨Str.ofString "early", []⟩ ∨ c = ⟨Str.ofString "drop", []⟩ ∨
  (∃ v, c = ⟨Str.ofString "letter", [v]⟩ ∧ 0 ≤ v ∧ v < g.b) ∨ (∃ h, c = ⟨Str.ofString "begin", [h]⟩) ∨ (∃ p, c = ⟨Str.ofString "copy", [p]⟩ ∧ 0 ≤ p ∧ p < g.a) ∨ ∃ p, c = ⟨Str.ofString "bring", [p]⟩ ∧ 0 ≤ p ∧ p < g.a
inductive AskR (z : Car C) (c : Wd) : Dat → Car C → Prop
  | tick (h : c.w = Str.ofString "tick") : AskR z c (ToD.dat (tickC z).1) (tickC z).2
  | letter (h : c.w = Str.ofString "letter") : AskR z c .non (letterC z (ix c.n 0))
  | begin {z' : Car C} (h : c.w = Str.ofString "begin") (h1 : ix c.n 0 ≠ z.place ∧ 0 ≤ ix c.n 0 ∧ ix c.n 0 < z.houses) (h2 : z.goal = none ∧ z.absent.l = []) (hb : BegR z (ix c.n 0) z') : AskR z c .non z'
  | copy (h : c.w = Str.ofString "copy") (h1 : z.goal.isSome = true ∧ z.still = false) : AskR z c .non (copyC z (ix c.n 0))
  | bring (h : c.w = Str.ofString "bring") (h1 : (z.absent.get? (ix c.n 0)).isSome = true) : AskR z c .non (bringC z (ix c.n 0))
  | stop (h : c.w = Str.ofString "stop") (h1 : z.goal.isSome = true ∧ z.still = false) : AskR z c (ToD.dat (lfM z)) (stillC z)
  | fin (h : c.w = Str.ofString "end") (h1 : z.still = true) : AskR z c (ToD.dat (z.made + ((lfM z).length : Int))) (goesC z)
  | early (h : c.w = Str.ofString "early") (h1 : z.still = true) : AskR z c (ToD.dat z.made) (goesC (lackC z (lfM z)))
  | drop (h : c.w = Str.ofString "drop") (h1 : z.goal.isSome = true) : AskR z c .non (dropC z)
def RefR (z : Car C) (c : Wd) (e : XC) : Prop :=
  (c.w = Str.ofString "begin" ∧ ((e = .noHouse ∧ ¬ (ix c.n 0 ≠ z.place ∧ 0 ≤ ix c.n 0 ∧ ix c.n 0 < z.houses)) ∨ (e = .noStep ∧ (ix c.n 0 ≠ z.place ∧ 0 ≤ ix c.n 0 ∧ ix c.n 0 < z.houses) ∧ ¬ (z.goal = none ∧ z.absent.l = [])))) ∨
  (c.w = Str.ofString "copy" ∧ e = .noStep ∧ ¬ (z.goal.isSome = true ∧ z.still = false)) ∨ (c.w = Str.ofString "bring" ∧ e = .noStep ∧ (z.absent.get? (ix c.n 0)).isSome = false) ∨ (c.w = Str.ofString "stop" ∧ e = .noStep ∧ ¬ (z.goal.isSome = true ∧ z.still = false)) ∨
  (c.w = Str.ofString "end" ∧ e = .noStep ∧ z.still = false) ∨ (c.w = Str.ofString "early" ∧ e = .noStep ∧ z.still = false) ∨ (c.w = Str.ofString "drop" ∧ e = .noStep ∧ z.goal = none)
structure AskOk (z : Car C) (c : Wd) : Prop where
  ok : CarOk z
  sg : z.still = true → z.goal.isSome = true
  fl : z.fresh.l.length ≤ 100000
  al : z.absent.l.length ≤ 100000
  call : CallOk z.g z.houses c
def refW : XC → Str
  | .noHouse => Str.ofString "nohouse"
  | _ => Str.ofString "nostep"
def AskedR (z : Car C) (c : Wd) (y : Dat) (z' : Car C) : Prop := AskR z c y z' ∨ ∃ e, (e = .noHouse ∨ e = .noStep) ∧ RefR z c e ∧ y = .str (refW e) ∧ z' = z
end GL
namespace GL
open PySem PySem.Spec PyProof.Rows L2
variable {C : Addr}
theorem fp_a_eq {z z' : Car C} (h : Anch.fp z' = Anch.fp z) : z'.a = z.a := V.ref.inj (congrArg Prod.fst h)
end GL
namespace GL
open PySem PySem.Spec PyProof.Rows L2
end GL
namespace GL
open PySem PySem.Spec PyProof.Rows L2
variable {C : Addr}
@[irreducible] def lawLeft (n : Int) (tou : Tou) (cps : List (Int × Int)) : List Int := (rng 0 n).filter fun p => !freshB cps tou p
theorem lawLeft_fold {n : Int} {tou : Tou} {cps : List (Int × Int)} : lawLeft n tou cps = (rng 0 n).filter fun p => !freshB cps tou p := by unfold lawLeft; rfl
theorem LetsOk.nil (g : Prog) : LetsOk g [] := ⟨.nil, (fun x h => nomatch h), Nat.zero_le _⟩
theorem CarRun.start {g : Prog} {s : Stand} {l : Lets} {av : Int} {z : Car C} (h1 : z.g = g) (h2 : z.st = s) (h3 : z.wait = availM l av) (h4 : z.done = 0) (h5 : z.said = []) : CarRun g s l 0 av z :=
  ⟨h1, by rw [rng_nil (Int.le_refl _), run_nil]; exact h2, by rw [rng_nil (Int.le_refl _), run_nil]; simpa using h3, h4, by rw [h5]; simp⟩
theorem CarRun.av {g : Prog} {s : Stand} {t a b : Int} {z : Car C} (h : CarRun g s [] t a z) : CarRun g s [] t b z := ⟨h.gg, h.st, h.wait, h.done, h.sl⟩
structure LI48 (g : Prog) (s : Stand) (t : Int) (cps : List (Int × Int)) (z : Car C) : Prop where
  run : CarRun g s [] t t z
  go : Going 1 cps (runF g s [] (rng 0 t)).2.2.2 z
  cp : ∀ c ∈ cps, 0 ≤ c.1 ∧ c.1 ≤ t
  pl : z.place = 0
theorem LI48.start {g : Prog} {s : Stand} {z z' : Car C} (h : ∃ a w s_ f b, z = Car.mk a w s_ f b g s 2 0 [] [] 0 none false Dct.emp 0 Dct.emp) (hb : BegR z 1 z') : LI48 g s 0 [] z' := by
  obtain ⟨a, w, s_, f, b, rfl⟩ := h
  obtain ⟨f', rfl⟩ := hb
  refine ⟨CarRun.start rfl rfl rfl rfl rfl, ⟨rfl, rfl, rfl, rfl, fun p => ?_, Nat.le_refl _⟩, (fun c h => nomatch h), rfl⟩
  rfl
theorem LI48.copy {g : Prog} {s : Stand} {t p : Int} {cps : List (Int × Int)} {z : Car C} (h : LI48 g s t cps z) (ht : 0 ≤ t) : LI48 g s t (cps ++ [(t, p)]) (copyC z p) := by
  obtain ⟨h1, h2, h3, h4⟩ := h
  refine ⟨?_, h2.copy (tou_lenI ht).symm, fun c hc => ?_, ?_⟩
  · unfold copyC; exact ⟨h1.gg, h1.st, h1.wait, h1.done, h1.sl⟩
  · rcases List.mem_append.mp hc with q | q
    · exact h3 c q
    · rw [List.mem_singleton.mp q]; exact ⟨ht, Int.le_refl _⟩
  · unfold copyC; exact h4
theorem LI48.tick {g : Prog} {s : Stand} {t : Int} {cps : List (Int × Int)} {z : Car C} (h : LI48 g s t cps z) (hg : ProgOk g) (hs : StandOk g s) (ht : 0 ≤ t) : LI48 g s (t + 1) cps (tickC z).2 := by
  obtain ⟨h1, h2, h3, h4⟩ := h
  obtain ⟨q1, q2, q3, q4⟩ := go_tick hs hg (LetsOk.nil g) ht h1 h2 h3
  exact ⟨q1.av, q2, fun c hc => by have := h3 c hc; omega, by rw [q4]; exact h4⟩
theorem LI48.left {g : Prog} {s : Stand} {t : Int} {cps : List (Int × Int)} {z : Car C} (h : LI48 g s t cps z) : lfM z = lawLeft g.a (runM g s [] t).c cps := by
  rw [lf_eq h.go, h.run.gg, lawLeft_fold]
  unfold runM
  rfl
theorem lf_still (z : Car C) : lfM (stillC z) = lfM z := by unfold lfM stillC; rfl
theorem puts_get : ∀ (l : List Int) (d : Dct Bool) (p : Int), ((l.foldl (fun d p => d.put p true) d).get? p).isSome = (decide (p ∈ l) || (d.get? p).isSome)
  | [], d, p => by simp
  | q :: l, d, p => by
    rw [List.foldl_cons, puts_get l, Dct.get?_put]
    by_cases e : p = q
    · rw [if_pos e]; simp [e]
    · rw [if_neg e]; simp [e]
structure Over (g : Prog) (s : Stand) (t : Int) (left : List Int) (early : Bool) (z : Car C) : Prop where
  run : CarRun g s [] t t z
  st : z.still = false
  pl : z.place = 1
  ab : ∀ p, (z.absent.get? p).isSome = (early && decide (p ∈ left))
theorem CarRun.wait0 {g : Prog} {s : Stand} {t a : Int} {z : Car C} (h : CarRun g s [] t a z) : z.wait = [] := by rw [h.wait]; simp [availM]
structure BrI (z0 : Car C) (pre : List Int) (z : Car C) : Prop where
  eq : ∃ d, z = { z0 with absent := d }
  ab : ∀ p, (z.absent.get? p).isSome = ((z0.absent.get? p).isSome && !decide (p ∈ pre))
theorem BrI.start (z : Car C) : BrI z [] z := ⟨⟨z.absent, rfl⟩, fun p => by simp⟩
theorem BrI.step {z0 z : Car C} {pre : List Int} {p : Int} (h : BrI z0 pre z) : BrI z0 (pre ++ [p]) (bringC z p) := by
  obtain ⟨⟨d, rfl⟩, h2⟩ := h
  unfold bringC
  refine ⟨⟨_, rfl⟩, fun q => ?_⟩
  show ((d.del p).get? q).isSome = _
  have h3 : (d.get? q).isSome = _ := h2 q
  rw [Dct.get?_del]
  by_cases e : q = p
  · rw [if_pos e]; simp [e]
  · rw [if_neg e, h3]; simp [e]
theorem Over.bring {g : Prog} {s : Stand} {t : Int} {left : List Int} {early : Bool} {z z' : Car C} {L : List Int} (h : Over g s t left early z) (hL : L = (List.replicate (if early = true then (1 : Int) else 0).toNat left).flatten) (k : BrI z L z') : CarRun g s [] t t z' ∧ z'.still = false ∧ z'.place = 1 ∧ NoLack z' := by
  obtain ⟨h1, h2, h3, h4⟩ := h
  obtain ⟨⟨d, rfl⟩, k2⟩ := k
  refine ⟨⟨h1.gg, h1.st, h1.wait, h1.done, h1.sl⟩, h2, h3, fun p => ?_⟩
  rw [k2 p, h4 p, hL]
  cases early with
  | true => simp
  | false => simp
end GL
namespace GL
open PySem PySem.Spec PyProof.Rows L2
variable {C : Addr}
end GL
namespace GL
open PySem PySem.Spec PyProof.Rows L2
variable {C : Addr}
end GL
namespace GL
open PySem PySem.Spec PyProof.Rows L2
theorem snoc_ind {α : Type} {P : List α → Prop} (h0 : P []) (hs : ∀ pre x, P pre → P (pre ++ [x])) (l : List α) : P l := by
  have : ∀ l : List α, P l.reverse := by
    intro l
    induction l with
    | nil => exact h0
    | cons x l ih => rw [List.reverse_cons]; exact hs _ _ ih
  have h := this l.reverse
  rw [List.reverse_reverse] at h
  exact h
theorem nodup_sub_le : ∀ {xs ys : List Int}, xs.Nodup → (∀ x ∈ xs, x ∈ ys) → xs.length ≤ ys.length
  | [], _, _, _ => Nat.zero_le _
  | x :: xs, ys, h, hs => by
    have hx := hs x List.mem_cons_self
    have hn := List.nodup_cons.mp h
    have ih := nodup_sub_le (ys := ys.erase x) hn.2 fun y hy => (List.mem_erase_of_ne (fun e : y = x => hn.1 (by rw [← e]; exact hy))).mpr (hs y (List.mem_cons_of_mem _ hy))
    rw [List.length_erase_of_mem hx] at ih
    have := List.length_pos_of_mem hx
    rw [List.length_cons]
    omega
abbrev NdS := List Int × Dct Bool
def ndS (st : NdS) (t : Tp Int × Tp Int) : NdS := (st.1 ++ ndNew st.1 st.2 t.1.l, wrD st.2 t.2.l)
def nd (y : Tch) : NdS := y.foldl ndS ([], Dct.emp)
def mN (y : Tch) : Int := ((nd y).1.length : Int)
theorem nd_snoc (y : Tch) (t : Tp Int × Tp Int) : nd (y ++ [t]) = ndS (nd y) t := by
  unfold nd
  rw [List.foldl_append]
  rfl
theorem nd_ok {n : Int} (y : Tch) : TchOk n y → (nd y).1.Nodup ∧ ∀ x ∈ (nd y).1, 0 ≤ x ∧ x < n := by
  refine snoc_ind (P := fun y => TchOk n y → (nd y).1.Nodup ∧ ∀ x ∈ (nd y).1, 0 ≤ x ∧ x < n) ?_ ?_ y
  · intro _
    exact ⟨List.nodup_nil, fun x hx => nomatch hx⟩
  · intro pre t ih h
    obtain ⟨h1, h2⟩ := ih fun q hq => h q (List.mem_append_left _ hq)
    obtain ⟨hr, _⟩ := h t (by simp)
    rw [nd_snoc]
    refine ⟨?_, fun x hx => ?_⟩
    · show ((nd pre).1 ++ ndNew (nd pre).1 (nd pre).2 t.1.l).Nodup
      refine List.nodup_append.mpr ⟨h1, List.Pairwise.filter _ (hr.up.imp fun q => by omega), fun a ha b hb e => ?_⟩
      have := (List.mem_filter.mp hb).2
      rw [← e, decide_eq_true ha] at this
      simp at this
    · rcases List.mem_append.mp hx with q | q
      · exact h2 x q
      · exact hr.bd x (List.mem_filter.mp q).1
def LLR (y : Tch) (r : LlS) : Prop := r.1 = (nd y).1 ∧ r.2.1 = (nd y).2 ∧ 0 ≤ r.2.2.1 ∧ (∀ j, j < y.length → mN (y.take (j + 1)) - j ≤ r.2.2.1) ∧
  ((r.2.2.1 = 0 ∧ r.2.2.2 = none) ∨ ∃ j : Nat, r.2.2.2 = some (j : Int) ∧ j < y.length ∧ 0 < r.2.2.1 ∧ mN (y.take (j + 1)) = r.2.2.1 + j)
theorem take_snoc_lt {δ : Type} {y : List δ} {t : δ} {j : Nat} (h : j < y.length) : (y ++ [t]).take (j + 1) = y.take (j + 1) := List.take_append_of_le_length (by omega)
theorem take_snoc_all {δ : Type} {y : List δ} {t : δ} : (y ++ [t]).take (y.length + 1) = y ++ [t] := List.take_of_length_le (by simp)
theorem ll_run (y : Tch) : LLR y ((enumI y).foldl llStep ([], Dct.emp, 0, none)) := by
  refine snoc_ind (P := fun y => LLR y ((enumI y).foldl llStep ([], Dct.emp, 0, none))) ?_ ?_ y
  · exact ⟨rfl, rfl, Int.le_refl _, fun j hj => absurd hj (Nat.not_lt_zero _), .inl ⟨rfl, rfl⟩⟩
  · intro pre t ih
    rw [enumI_snoc, List.foldl_append]
    generalize (enumI pre).foldl llStep ([], Dct.emp, 0, none) = r at ih
    obtain ⟨needed, written, lost, shows⟩ := r
    obtain ⟨h1, h2, h3, h4, h5⟩ := ih
    dsimp only at h1 h2 h3 h4 h5
    have hm : mN (pre ++ [t]) = ((needed ++ ndNew needed written t.1.l).length : Int) := by
      unfold mN
      rw [nd_snoc, h1, h2]
      rfl
    show LLR (pre ++ [t]) (llStep (needed, written, lost, shows) ((pre.length : Int), t))
    unfold llStep
    dsimp only
    rw [← hm]
    refine ⟨by rw [nd_snoc, h1, h2]; rfl, by rw [nd_snoc, h2]; rfl, ?_, fun j hj => ?_, ?_⟩
    · dsimp only
      split
      · rename_i h; have := of_decide_eq_true h; omega
      · exact h3
    · dsimp only
      rw [List.length_append, List.length_singleton] at hj
      by_cases e : j = pre.length
      · subst e
        rw [take_snoc_all]
        split
        · exact Int.le_refl _
        · rename_i h; simp at h; omega
      · rw [take_snoc_lt (by omega)]
        have := h4 j (by omega)
        split
        · rename_i h; have := of_decide_eq_true h; omega
        · exact this
    · dsimp only
      by_cases h : lost < mN (pre ++ [t]) - (pre.length : Int)
      · rw [if_pos (decide_eq_true h), if_pos (decide_eq_true h)]
        exact .inr ⟨pre.length, rfl, by simp, by omega, by rw [take_snoc_all]; omega⟩
      · rw [if_neg (by simpa using h), if_neg (by simpa using h)]
        rcases h5 with h5 | ⟨j, a1, a2, a3, a4⟩
        · exact .inl h5
        · exact .inr ⟨j, a1, by simp; omega, a3, by rw [take_snoc_lt a2]; exact a4⟩
def CL (C : List Int) (came : Dct Int) : Prop := C.Nodup ∧ ∀ x, x ∈ C ↔ (came.get? x).isSome = true
theorem CL.put {C : List Int} {came : Dct Int} {x now : Int} (h : CL C came) (hx : (came.get? x).isSome = false) : CL (C ++ [x]) (came.put x now) := by
  refine ⟨List.nodup_append.mpr ⟨h.1, by simp, fun a ha b hb e => ?_⟩, fun y => ?_⟩
  · rw [List.mem_singleton.mp hb] at e
    have := (h.2 a).mp ha
    rw [e, hx] at this
    cases this
  · rw [List.mem_append, List.mem_singleton, h.2 y, Dct.get?_put]
    by_cases e : y = x
    · rw [if_pos e]
      simp [e]
    · rw [if_neg e]
      simp [e]
theorem goM_inv {reads order : List Int} {written : Dct Bool} {asks : Bool} {I : Dct Int × Int → Prop} (ho : ∀ x ∈ reads, x ∈ order) (hb : ∀ x ∈ order, 0 ≤ x ∧ x < 1000)
    (hs : ∀ s, CameOk s.1 s.2 → laM reads written s.1 s.2 ≠ [] → I s → I (s.1.put (goX reads order written asks s) s.2, s.2 + 1)) : ∀ (f : Nat) (s : Dct Int × Int), CameOk s.1 s.2 → I s → I (goM reads order written asks f s)
  | 0, s, _, h => h
  | f + 1, s, hc, h => by
    rw [goM]
    split
    · exact h
    · rename_i hl
      exact goM_inv ho hb hs f _ (hc.put (hb _ (List.mem_filter.mp (goX_mem hc ho hl)).1)) (hs s hc hl h)
theorem goM_stop {reads order : List Int} {written : Dct Bool} {asks : Bool} (ho : ∀ x ∈ reads, x ∈ order) (hb : ∀ x ∈ order, 0 ≤ x ∧ x < 1000) : ∀ (f : Nat) (s : Dct Int × Int), CameOk s.1 s.2 → (leM order written s.1).length < f →
    laM reads written (goM reads order written asks f s).1 (goM reads order written asks f s).2 = []
  | 0, s, _, h => absurd h (Nat.not_lt_zero _)
  | f + 1, s, hc, h => by
    rw [goM]
    split
    · assumption
    · rename_i hl
      have hm := goX_mem (asks := asks) hc ho hl
      have := le_less (now := s.2) hm
      rw [show ((s.1, s.2) : Dct Int × Int) = s from rfl] at this
      exact goM_stop ho hb f _ (hc.put (hb _ (List.mem_filter.mp hm).1)) (by dsimp only; omega)
def take1 (l : List Int) (now : Int) (d : Dct Int) : Dct Int := match l.head? with | none => d | some x => d.put x now
theorem plStep_eq (order : List Int) (asks : Bool) (st : PlS) (t : Tp Int × Tp Int) : plStep order asks st t =
    (take1 (leM order (wrD st.2.1 t.2.l) (goM t.1.l order st.2.1 asks (order.length + 1) (st.1, st.2.2.2)).1) (goM t.1.l order st.2.1 asks (order.length + 1) (st.1, st.2.2.2)).2 (goM t.1.l order st.2.1 asks (order.length + 1) (st.1, st.2.2.2)).1,
     wrD st.2.1 t.2.l, st.2.2.1 ++ [(goM t.1.l order st.2.1 asks (order.length + 1) (st.1, st.2.2.2)).2], (goM t.1.l order st.2.1 asks (order.length + 1) (st.1, st.2.2.2)).2 + 1) := by
  unfold plStep take1
  cases leM order (wrD st.2.1 t.2.l) (goM t.1.l order st.2.1 asks (order.length + 1) (st.1, st.2.2.2)).1 with
  | nil => rfl
  | cons x xs => rfl
structure PLB (y : Tch) (st : PlS) (C : List Int) : Prop where
  wr : st.2.1 = (nd y).2
  cl : CL C st.1
  cn : (C.length : Int) ≤ st.2.2.2
  nds : ∀ p ∈ (nd y).1, p ∈ C
  tk : st.2.2.1.length = y.length
  lo : ∀ k, k < y.length → mN (y.take (k + 1)) ≤ st.2.2.1.getD k 0
  up : ∀ k, k + 1 < y.length → st.2.2.1.getD k 0 + 1 ≤ st.2.2.1.getD (k + 1) 0
  ds : ∀ k, k < y.length → st.2.2.1.getD k 0 + ((y.length : Int) - k) ≤ st.2.2.2
  ls : 0 < y.length → st.2.2.1.getD (y.length - 1) 0 + 1 = st.2.2.2
  z : y.length = 0 → st.2.2.2 = 0
  ge : (y.length : Int) ≤ st.2.2.2
theorem getD_snoc_lt {xs : List Int} {v : Int} {k : Nat} (h : k < xs.length) : (xs ++ [v]).getD k 0 = xs.getD k 0 := by
  rw [List.getD_eq_getElem?_getD, List.getD_eq_getElem?_getD, List.getElem?_append_left h]
theorem getD_snoc_eq {xs : List Int} {v : Int} {k : Nat} (h : k = xs.length) : (xs ++ [v]).getD k 0 = v := by
  rw [List.getD_eq_getElem?_getD, List.getElem?_append_right (by omega), h, Nat.sub_self]
  rfl
theorem lack_none {reads : List Int} {written : Dct Bool} {came : Dct Int} {now : Int} (h : laM reads written came now = []) {x : Int} (hx : x ∈ reads) : (written.get? x).isSome = true ∨ (came.get? x).isSome = true := by
  have h1 : ¬ x ∈ laM reads written came now := by rw [h]; exact fun q => nomatch q
  unfold laM at h1
  rw [List.mem_filter] at h1
  cases e : (written.get? x).isSome with
  | true => exact .inl rfl
  | false =>
    right
    cases e2 : came.get? x with
    | some c => rfl
    | none =>
      refine absurd ⟨hx, ?_⟩ h1
      rw [e, e2]
      simp
theorem plb {n : Int} {order : List Int} {asks : Bool} (hn : n ≤ 1000) (hc : ∀ x, 0 ≤ x → x < n → x ∈ order) (hb : ∀ x ∈ order, 0 ≤ x ∧ x < 1000) (y : Tch) : TchOk n y → ∃ C, PLB y (y.foldl (plStep order asks) (Dct.emp, Dct.emp, [], 0)) C := by
  refine snoc_ind (P := fun y => TchOk n y → ∃ C, PLB y (y.foldl (plStep order asks) (Dct.emp, Dct.emp, [], 0)) C) ?_ ?_ y
  · intro _
    exact ⟨[], rfl, ⟨List.nodup_nil, fun x => ⟨fun h => (nomatch h), fun h => by cases h⟩⟩, Int.le_refl _, fun p hp => (nomatch hp), rfl, fun k hk => absurd hk (Nat.not_lt_zero _), fun k hk => absurd hk (Nat.not_lt_zero _), fun k hk => absurd hk (Nat.not_lt_zero _), fun h => absurd h (Nat.not_lt_zero _), fun _ => rfl, Int.le_refl _⟩
  · intro pre t ih h
    have hpre : TchOk n pre := fun q hq => h q (List.mem_append_left _ hq)
    obtain ⟨C, p⟩ := ih hpre
    obtain ⟨pok, _⟩ := pl_ok (asks := asks) hn hc hb pre (Dct.emp, Dct.emp, [], 0) hpre ⟨⟨fun x c e => (nomatch e), Dct.Ok.emp⟩, Dct.Ok.emp⟩
    rw [List.foldl_append]
    generalize pre.foldl (plStep order asks) (Dct.emp, Dct.emp, [], 0) = st at p pok
    obtain ⟨came, written, ticks, now⟩ := st
    obtain ⟨hco, hwo⟩ := pok
    obtain ⟨p1, p2, p3, p4, p5, p6, p7, p8, p9, p10, p11⟩ := p
    dsimp only at p1 p2 p3 p4 p5 p6 p7 p8 p9 p10 p11 hco hwo
    obtain ⟨hr, hw⟩ := h t (by simp)
    have hor : ∀ x ∈ t.1.l, x ∈ order := fun x hx => hc x (hr.bd x hx).1 (hr.bd x hx).2
    show ∃ C, PLB (pre ++ [t]) (plStep order asks (came, written, ticks, now) t) C
    rw [plStep_eq]
    dsimp only
    have hgi := goM_inv (written := written) (asks := asks) (I := fun s => (∃ C', CL C' s.1 ∧ (C'.length : Int) ≤ s.2 ∧ ∀ p ∈ C, p ∈ C')) hor hb (fun s hs hl ⟨C', c1, c2, c3⟩ => by
      have hm := goX_mem (asks := asks) hs hor hl
      have hx := (List.mem_filter.mp hm).2
      refine ⟨C' ++ [goX t.1.l order written asks s], c1.put (by simp at hx; simpa using hx.2), by rw [List.length_append, List.length_singleton]; dsimp only; omega, fun p hp => List.mem_append_left _ (c3 p hp)⟩) (order.length + 1) (came, now) hco ⟨C, p2, p3, fun p hp => hp⟩
    have hst := goM_stop (written := written) (asks := asks) hor hb (order.length + 1) (came, now) hco (Nat.lt_succ_of_le (List.length_filter_le _ _))
    have hge := goM_ge (reads := t.1.l) (order := order) (written := written) (asks := asks) (order.length + 1) (came, now)
    generalize goM t.1.l order written asks (order.length + 1) (came, now) = g at hgi hst hge
    obtain ⟨came2, now2⟩ := g
    obtain ⟨C', c1, c2, c3⟩ := hgi
    dsimp only at c1 c2 c3 hst hge ⊢
    have hnew : ∀ p ∈ (nd (pre ++ [t])).1, p ∈ C' := fun p hp => by
      rw [nd_snoc] at hp
      rcases List.mem_append.mp hp with q | q
      · exact c3 p (p4 p q)
      · obtain ⟨q1, q2⟩ := List.mem_filter.mp q
        rcases lack_none hst q1 with e | e
        · rw [← p1] at q2
          rw [e] at q2
          simp at q2
        · exact (c1.2 p).mpr e
    have hm : mN (pre ++ [t]) ≤ now2 := by
      have := nodup_sub_le (nd_ok (pre ++ [t]) h).1 hnew
      unfold mN
      omega
    have hC2 : ∃ C2, CL C2 (take1 (leM order (wrD written t.2.l) came2) now2 came2) ∧ (C2.length : Int) ≤ now2 + 1 ∧ ∀ p ∈ C', p ∈ C2 := by
      unfold take1
      cases e : (leM order (wrD written t.2.l) came2) with
      | nil => exact ⟨C', c1, by omega, fun p hp => hp⟩
      | cons x xs =>
        have hx : x ∈ leM order (wrD written t.2.l) came2 := by rw [e]; exact List.mem_cons_self
        have hx2 := (List.mem_filter.mp hx).2
        refine ⟨C' ++ [x], c1.put (by simp at hx2; simpa using hx2.2), by rw [List.length_append, List.length_singleton]; omega, fun p hp => List.mem_append_left _ hp⟩
    obtain ⟨C2, d1, d2, d3⟩ := hC2
    have hlen : (pre ++ [t]).length = pre.length + 1 := by simp
    refine ⟨C2, by rw [nd_snoc, p1]; rfl, d1, d2, fun p hp => d3 p (hnew p hp), by dsimp only; rw [List.length_append, p5, hlen]; rfl, fun k hk => ?_, fun k hk => ?_, fun k hk => ?_, fun _ => ?_, fun e => by omega, by rw [hlen]; dsimp only; omega⟩
    · dsimp only
      rw [hlen] at hk
      by_cases e : k = pre.length
      · rw [getD_snoc_eq (by omega), e, take_snoc_all]
        exact hm
      · rw [getD_snoc_lt (by omega), take_snoc_lt (by omega)]
        exact p6 k (by omega)
    · dsimp only
      rw [hlen] at hk
      by_cases e : k + 1 = pre.length
      · rw [getD_snoc_eq (xs := ticks) (k := k + 1) (by omega), getD_snoc_lt (by omega)]
        have := p9 (by omega)
        rw [show pre.length - 1 = k by omega] at this
        omega
      · rw [getD_snoc_lt (k := k + 1) (by omega), getD_snoc_lt (by omega)]
        exact p7 k (by omega)
    · dsimp only
      rw [hlen] at hk ⊢
      by_cases e : k = pre.length
      · rw [getD_snoc_eq (by omega)]
        omega
      · rw [getD_snoc_lt (by omega)]
        have := p8 k (by omega)
        omega
    · dsimp only
      rw [getD_snoc_eq (by omega)]
theorem lastI_getD {xs : List Int} (h : 0 < xs.length) : lastI xs = xs.getD (xs.length - 1) 0 := by
  unfold lastI ix
  rw [show ((xs.length : Int) - 1).toNat = xs.length - 1 by omega]
  rfl
theorem play_lost {y : Tch} {order : List Int} {asks : Bool} {C : List Int} (p : PLB y (y.foldl (plStep order asks) (Dct.emp, Dct.emp, [], 0)) C) : (playG y order asks).2 = (y.foldl (plStep order asks) (Dct.emp, Dct.emp, [], 0)).2.2.2 - y.length ∧ (playG y order asks).1 = (y.foldl (plStep order asks) (Dct.emp, Dct.emp, [], 0)).2.2.1 := by
  unfold playG
  generalize y.foldl (plStep order asks) (Dct.emp, Dct.emp, [], 0) = st at p
  obtain ⟨came, written, ticks, now⟩ := st
  refine ⟨?_, rfl⟩
  have h1 := p.tk
  have h2 := p.ls
  have h3 := p.z
  have h4 := p.ge
  dsimp only at h1 h2 h3 h4 ⊢
  cases ticks with
  | nil =>
    have : y.length = 0 := by rw [← h1]; rfl
    rw [h3 this, this]
    rfl
  | cons x xs =>
    have e : cutL (x :: xs) none (some 1) = [x] := rfl
    rw [e]
    show max (0 : Int) (lastI (x :: xs) - ((x :: xs).length : Int) + 1) = _
    rw [lastI_getD (by simp), h1]
    have := h2 (by rw [← h1]; simp)
    omega
end GL
namespace GL
open PySem PySem.Spec PyProof.Rows L2
def Ther (written : Dct Bool) (came : Dct Int) (x : Int) : Prop := (written.get? x).isSome = true ∨ (came.get? x).isSome = true
theorem Ther.put {written : Dct Bool} {came : Dct Int} {x z now : Int} (h : Ther written came x) : Ther written (came.put z now) x := by
  rcases h with h | h
  · exact .inl h
  · right
    rw [Dct.get?_put]
    split
    · rfl
    · exact h
theorem wr_more {x : Int} : ∀ {ws : List Int} {d : Dct Bool}, (d.get? x).isSome = true → ((wrD d ws).get? x).isSome = true
  | [], _, h => h
  | w :: ws, d, h => wr_more (ws := ws) (d := d.put w true) (by
      rw [Dct.get?_put]
      split
      · rfl
      · exact h)
theorem Ther.wr {written : Dct Bool} {came : Dct Int} {x : Int} {ws : List Int} (h : Ther written came x) : Ther (wrD written ws) came x := h.elim (fun h => .inl (wr_more h)) .inr
theorem ll_eq (n : Int) (y : Tch) : ∃ lost shows, llM n y = ⟨(nd y).1 ++ (rng 0 n).filter (fun x => !decide (x ∈ (nd y).1)), lost, shows⟩ ∧ LLR y ((nd y).1, (nd y).2, lost, shows) := by
  have h := ll_run y
  unfold llM
  generalize (enumI y).foldl llStep ([], Dct.emp, 0, none) = r at h
  obtain ⟨a, b, c, d⟩ := r
  have h1 : a = (nd y).1 := h.1
  have h2 : b = (nd y).2 := h.2.1
  subst h1 h2
  exact ⟨c, d, rfl, h⟩
def toldO (n : Int) (y : Tch) : List Int := (nd y).1 ++ (rng 0 n).filter (fun x => !decide (x ∈ (nd y).1))
theorem lost_ge {n lost : Int} {order : List Int} {asks : Bool} {y : Tch} {shows : Option Int} (hn : n ≤ 1000) (hc : ∀ x, 0 ≤ x → x < n → x ∈ order) (hb : ∀ x ∈ order, 0 ≤ x ∧ x < 1000) (hy : TchOk n y) (h : LLR y ((nd y).1, (nd y).2, lost, shows)) : lost ≤ (playG y order asks).2 := by
  obtain ⟨C, p⟩ := plb (asks := asks) hn hc hb y hy
  rw [(play_lost p).1]
  obtain ⟨_, _, h3, h4, h5⟩ := h
  dsimp only at h3 h4 h5
  have h6 := p.ge
  rcases h5 with ⟨h5, _⟩ | ⟨j, _, a2, a3, a4⟩
  · omega
  · have := p.lo j a2
    have := p.ds j a2
    omega
end GL
namespace GL
open PySem PySem.Spec PyProof.Rows L2
variable {C : Addr}
structure BRun (g : Prog) (b : Stand) (k : Int) (z : Car C) : Prop where
  gg : z.g = g
  st : z.st = (runF g b [] (rng 0 k)).2.1
  wait : z.wait = []
theorem avail_nil (t : Int) (n : Nat) : (availM [] t).drop n = [] := by simp [availM]
theorem BRun.start {z : Car C} (h : z.wait = []) : BRun z.g z.st 0 z := ⟨rfl, by rw [rng_nil (Int.le_refl _), run_nil], h⟩
theorem BRun.went {g : Prog} {b : Stand} {k : Int} {z : Car C} (h : BRun g b k z) (hk : 0 ≤ k) : BRun g b (k + 1) (wentM z (tickM z.g z.st z.wait)) := by
  obtain ⟨h1, h2, h3⟩ := h
  refine ⟨h1, ?_, ?_⟩
  · rw [run_next hk, runStep_stand, avail_nil, ← h2, ← h1, ← h3]; rfl
  · show (if decide ((tickM z.g z.st z.wait).b = Str.ofString "took") = true then z.wait.drop 1 else z.wait) = []
    rw [h3]
    split <;> rfl
theorem BRun.tou {g : Prog} {b : Stand} {k : Int} {z : Car C} (h : BRun g b k z) (hk : 0 ≤ k) : (runF g b [] (rng 0 (k + 1))).2.2.2 = (runF g b [] (rng 0 k)).2.2.2 ++ [((tickM z.g z.st z.wait).d, (tickM z.g z.st z.wait).e)] := by
  rw [run_tou hk, avail_nil, ← h.gg, ← h.wait]
  rw [h.gg, ← h.st]
theorem lks_tick {z : Car C} (h : z.wait = []) : lksM z = ((tickM z.g z.st z.wait).d.l).filter fun p => (z.absent.get? p).isSome := by
  rw [h]
  unfold lksM
  cases hr : rowAtM z.g z.st with
  | none => unfold tickM; rw [hr]; rfl
  | some r =>
    unfold tickM
    rw [hr]
    dsimp only
    split
    · rename_i hc
      have := (Bool.and_eq_true_iff.mp hc).1
      cases r <;> first | rfl | exact absurd this Bool.false_ne_true
    · rfl
theorem tick_noLack {g : Prog} {s : Stand} {l : List Int} : decide ((tickM g s l).b = Str.ofString "lacks") = false := by
  refine tick_cases (fun t => decide (t.b = Str.ofString "lacks") = false) (fun _ => (by decide +kernel : decide (Str.ofString "ended" = Str.ofString "lacks") = false)) (fun _ _ _ => (by decide +kernel : decide (Str.ofString "waits" = Str.ofString "lacks") = false)) fun r _ _ => ?_
  cases r with
  | say p => exact (by decide +kernel : decide (Str.ofString "said" = Str.ofString "lacks") = false)
  | take p => exact (by decide +kernel : decide (Str.ofString "took" = Str.ofString "lacks") = false)
  | set p v => exact (by decide +kernel : decide (Str.ofString "did" = Str.ofString "lacks") = false)
  | add p v => exact (by decide +kernel : decide (Str.ofString "did" = Str.ofString "lacks") = false)
  | jump p v => exact (by decide +kernel : decide (Str.ofString "did" = Str.ofString "lacks") = false)
  | fin => exact (by decide +kernel : decide (Str.ofString "did" = Str.ofString "lacks") = false)
theorem row1 {n p : Int} (h : 0 ≤ p ∧ p < n) : RowOk n ⟨[p]⟩ := ⟨List.pairwise_singleton _ _, fun s hs => by rw [List.mem_singleton.mp hs]; exact h⟩
theorem row0 {n : Int} : RowOk n ⟨[]⟩ := ⟨.nil, fun s hs => nomatch hs⟩
theorem tick_rows {g : Prog} {s : Stand} {l : List Int} (hg : ProgOk g) (hs : StandOk g s) : RowOk g.a (tickM g s l).d ∧ RowOk g.a (tickM g s l).e := by
  refine tick_cases (fun t => RowOk g.a t.d ∧ RowOk g.a t.e) (fun _ => ⟨row0, row0⟩) (fun _ _ _ => ⟨row0, row0⟩) fun r hr _ => ?_
  have hv := (tick_row hg hs hr).2.2.2
  show RowOk g.a (readsM r) ∧ RowOk g.a (writesM r)
  cases r with
  | set p v => exact ⟨row0, row1 hv.1⟩
  | add p q =>
    refine ⟨⟨usrt_pw _, fun x hx => ?_⟩, row1 hv.1⟩
    have := mem_usrt.mp hx
    have h1 := hv.1
    have h2 := hv.2
    rcases List.mem_cons.mp this with e | e
    · rw [e]; exact h1
    · rw [List.mem_singleton.mp e]; exact h2
  | jump p v => exact ⟨row1 hv.1, row0⟩
  | say p => exact ⟨row1 hv, row0⟩
  | take p => exact ⟨row0, row1 hv⟩
  | fin => exact ⟨row0, row0⟩
theorem run_rows {g : Prog} {s : Stand} (hg : ProgOk g) (hs : StandOk g s) (xs : List Int) : TchOk g.a (runF g s [] xs).2.2.2 := by
  refine rev_indU (P := fun xs => TchOk g.a (runF g s [] xs).2.2.2) ?_ (fun xs n ih => ?_) xs
  · rw [run_nil]; intro x hx; simp at hx
  · have ho := (run_ok hg hs (LetsOk.nil g) xs).1
    rw [run_snoc]
    unfold runStep
    exact all_snoc ih (tick_rows hg ho)
def filR (left : List Int) (x : Tp Int × Tp Int) : Tp Int × Tp Int := (⟨x.1.l.filter fun p => decide (p ∈ left)⟩, x.2)
theorem filR_ok {n : Int} {left : List Int} {x : Tp Int × Tp Int} (h : RowOk n x.1 ∧ RowOk n x.2) : RowOk n (filR left x).1 ∧ RowOk n (filR left x).2 :=
  ⟨⟨h.1.up.filter _, fun p hp => h.1.bd p (List.mem_filter.mp hp).1⟩, h.2⟩
theorem fil_ok {n : Int} {left : List Int} {y : Tch} (h : TchOk n y) : TchOk n (y.map (filR left)) := fun t ht => by
  obtain ⟨x, hx, rfl⟩ := List.mem_map.mp ht
  exact filR_ok (h x hx)
def dueL (order left : List Int) : List Int := order.filter (fun p => decide (p ∈ left)) ++ order.filter fun p => !decide (p ∈ left)
theorem dueL_mem {order left : List Int} {x : Int} : x ∈ dueL order left ↔ x ∈ order := by
  unfold dueL
  rw [List.mem_append, List.mem_filter, List.mem_filter]
  by_cases h : x ∈ left <;> simp [h]
theorem dueL_len {order left : List Int} : (dueL order left).length = order.length := by
  unfold dueL
  rw [List.length_append]
  induction order with
  | nil => rfl
  | cons x l ih =>
    rw [List.filter_cons, List.filter_cons]
    by_cases h : x ∈ left <;> simp [h] at ih ⊢ <;> omega
@[irreducible] def broC (z : Car C) (order : List Int) : Bool × Car C := match order.find? fun p => (z.absent.get? p).isSome with
  | none => (false, z)
  | some p => (true, bringC z p)
theorem bro_fp (z : Car C) (order : List Int) : Anch.fp (broC z order).2 = Anch.fp z := by
  unfold broC
  split
  · rfl
  · exact bring_fp _ _
def beatC (order : List Int) (asks : Bool) (st : Car C × List Int) (now : Int) : Car C × List Int :=
  if decide ((tickC st.1).1.w = Str.ofString "lacks") = false then ((broC (tickC st.1).2 order).2, st.2 ++ [now])
  else if asks = true then (bringC (tickC st.1).2 ((ix (tickC st.1).1.r 0).getD default), st.2)
  else ((broC (tickC st.1).2 order).2, st.2)
def AbR (left : List Int) (written : Dct Bool) (came : Dct Int) (ab : Dct Bool) : Prop := ∀ p, (ab.get? p).isSome = (decide (p ∈ left) && (!(written.get? p).isSome && !(came.get? p).isSome))
theorem le_due {order left : List Int} {written : Dct Bool} {came : Dct Int} {ab : Dct Bool} (h : AbR left written came ab) : leM (dueL order left) written came = order.filter (fun p => (ab.get? p).isSome) ++ leM (order.filter fun p => !decide (p ∈ left)) written came := by
  unfold leM dueL
  rw [List.filter_append, List.filter_filter]
  congr 1
  exact List.filter_congr fun p _ => by rw [h p, Bool.and_comm]
theorem la_ab {rd left : List Int} {written : Dct Bool} {came : Dct Int} {ab : Dct Bool} {now : Int} (h : AbR left written came ab) (hc : CameOk came now) : (rd.filter fun p => (ab.get? p).isSome) = laM (rd.filter fun p => decide (p ∈ left)) written came now := by
  unfold laM
  rw [List.filter_filter]
  refine List.filter_congr fun p _ => ?_
  rw [h p]
  cases e : came.get? p with
  | none => simp [Bool.and_comm]
  | some c =>
    have := hc.1 p c e
    have : ¬ now ≤ c := by omega
    simp [this]
theorem AbR.come {left : List Int} {written : Dct Bool} {came : Dct Int} {ab : Dct Bool} (h : AbR left written came ab) (x now : Int) : AbR left written (came.put x now) (ab.del x) := fun p => by
  rw [Dct.get?_del, Dct.get?_put]
  by_cases e : p = x
  · rw [if_pos e, if_pos e]; simp
  · rw [if_neg e, if_neg e]; exact h p
theorem wrD_get : ∀ (ws : List Int) (d : Dct Bool) (p : Int), ((wrD d ws).get? p).isSome = (decide (p ∈ ws) || (d.get? p).isSome) := fun ws d p => puts_get ws d p
theorem AbR.wr {left : List Int} {written : Dct Bool} {came : Dct Int} {ab : Dct Bool} (h : AbR left written came ab) (ws : List Int) : AbR left (wrD written ws) came (ws.foldl Dct.del ab) := fun p => by
  rw [get?_delL, wrD_get]
  by_cases e : p ∈ ws
  · rw [if_pos e]; simp [e]
  · rw [if_neg e, h p]; simp [e]
theorem find_head {α : Type} (f : α → Bool) (l : List α) : l.find? f = (l.filter f).head? := (List.head?_filter ..).symm
theorem bring_ab (z : Car C) (p : Int) : (bringC z p).absent = z.absent.del p := by unfold bringC; rfl
theorem bring_same (z : Car C) (p : Int) : (bringC z p).g = z.g ∧ (bringC z p).st = z.st ∧ (bringC z p).wait = z.wait ∧ (bringC z p).still = z.still ∧ (bringC z p).done = z.done ∧ (bringC z p).said = z.said := by unfold bringC; exact ⟨rfl, rfl, rfl, rfl, rfl, rfl⟩
theorem bro_next {order left : List Int} {written : Dct Bool} {came : Dct Int} {z : Car C} {now : Int} (h : AbR left written came z.absent) (ho : ∀ p ∈ left, p ∈ order) :
    AbR left written ((cutL (leM (dueL order left) written came) none (some 1)).foldl (fun d p => d.put p now) came) (broC z order).2.absent := by
  have hd := le_due (order := order) h
  unfold broC
  rw [find_head]
  cases e : order.filter fun p => (z.absent.get? p).isSome with
  | nil =>
    dsimp only [List.head?_nil]
    rw [hd, e, List.nil_append]
    have hno : ∀ p, p ∈ left → (z.absent.get? p).isSome = false := fun p hp => by
      cases q : (z.absent.get? p).isSome with
      | false => rfl
      | true =>
        have : p ∈ order.filter fun p => (z.absent.get? p).isSome := List.mem_filter.mpr ⟨ho p hp, q⟩
        rw [e] at this
        cases this
    cases leM (order.filter fun p => !decide (p ∈ left)) written came with
    | nil => exact h
    | cons y ys =>
      intro p
      show (z.absent.get? p).isSome = (decide (p ∈ left) && (!(written.get? p).isSome && !((came.put y now).get? p).isSome))
      by_cases hp : p ∈ left
      · have h1 := hno p hp
        have h2 := h p
        rw [h1] at h2
        rw [h1, Dct.get?_put]
        by_cases e2 : p = y
        · rw [if_pos e2]; simp
        · rw [if_neg e2]; exact h2
      · rw [h p]; simp [hp]
  | cons x xs =>
    dsimp only [List.head?_cons]
    rw [hd, e, List.cons_append]
    show AbR left written (came.put x now) (bringC z x).absent
    rw [bring_ab]
    exact h.come x now
theorem bro_x {order left reads : List Int} {written : Dct Bool} {came : Dct Int} {z : Car C} {now : Int} (h : AbR left written came z.absent) (hc : CameOk came now) (hr : ∀ x ∈ reads, x ∈ dueL order left) (hl : laM (reads.filter fun p => decide (p ∈ left)) written came now ≠ []) :
    broC z order = (true, bringC z (goX (reads.filter fun p => decide (p ∈ left)) (dueL order left) written false (came, now))) := by
  have hd := le_due (order := order) h
  have h1 := ix0_mem hl
  rw [← la_ab h hc] at h1
  obtain ⟨q1, q2⟩ := List.mem_filter.mp h1
  have h2 : (order.filter fun p => (z.absent.get? p).isSome) ≠ [] := List.ne_nil_of_mem (List.mem_filter.mpr ⟨dueL_mem.mp (hr _ q1), q2⟩)
  unfold broC goX
  rw [find_head, if_neg (by decide)]
  show (match (order.filter fun p => (z.absent.get? p).isSome).head? with | none => (false, z) | some p => (true, bringC z p)) = (true, bringC z (ix (leM (dueL order left) written came) 0))
  rw [hd]
  cases e : order.filter fun p => (z.absent.get? p).isSome with
  | nil => exact absurd e h2
  | cons x xs => rfl
structure GnC (g : Prog) (s b : Stand) (t : Int) (left order : List Int) (asks : Bool) (now : Int) (st : Car C × List Int) : Prop where
  run : CarRun g s [] (t + st.2.length) (t + st.2.length) st.1
  br : BRun g b st.2.length st.1
  still : st.1.still = false
  le : (st.2.length : Int) ≤ now
  deed : ∃ came0 written now0, (((runF g b [] (rng 0 st.2.length)).2.2.2.map (filR left)).foldl (plStep (dueL order left) asks) (Dct.emp, Dct.emp, [], 0)) = (came0, written, st.2, now0) ∧
    ∃ came, AbR left written came st.1.absent ∧ GoI ((tickM st.1.g st.1.st st.1.wait).d.l.filter fun p => decide (p ∈ left)) (dueL order left) written asks
      (goM ((tickM st.1.g st.1.st st.1.wait).d.l.filter fun p => decide (p ∈ left)) (dueL order left) written asks ((dueL order left).length + 1) (came0, now0)) (came, now, laM ((tickM st.1.g st.1.st st.1.wait).d.l.filter fun p => decide (p ∈ left)) written came now)
theorem GnC.start {g : Prog} {s : Stand} {t : Int} {left order : List Int} {asks : Bool} {z : Car C} (h : CarRun g s [] t t z) (h0 : z.still = false) (ha : ∀ p, (z.absent.get? p).isSome = decide (p ∈ left)) : GnC g s z.st t left order asks 0 (z, []) := by
  refine ⟨by simpa using h, ?_, h0, Int.le_refl _, Dct.emp, Dct.emp, 0, ?_, Dct.emp, fun p => ?_, rfl, ⟨fun x c e => (nomatch e), Dct.Ok.emp⟩, _, rfl, ?_⟩
  · have := BRun.start (z := z) h.wait0
    rw [h.gg] at this
    exact this
  · show ((runF g z.st [] (rng 0 0)).2.2.2.map (filR left)).foldl _ _ = _
    rw [rng_nil (Int.le_refl _), run_nil]
    rfl
  · dsimp only
    rw [ha p]
    show _ = (decide (p ∈ left) && (!false && !false))
    simp
  · exact Nat.lt_succ_of_le (List.length_filter_le _ _)
theorem CarRun.stay {g : Prog} {s : Stand} {t : Int} {z : Car C} (h : CarRun g s [] t t z) (p : Int) : CarRun g s [] t t (bringC z p) := by
  obtain ⟨h1, h2, h3, h4, h5⟩ := h
  obtain ⟨q1, q2, q3, q4, q5, q6⟩ := bring_same z p
  exact ⟨q1.trans h1, q2.trans h2, q3.trans h3, q5.trans h4, by rw [q6]; exact h5⟩
theorem BRun.stay {g : Prog} {b : Stand} {k : Int} {z : Car C} (h : BRun g b k z) (p : Int) : BRun g b k (bringC z p) := by
  obtain ⟨h1, h2, h3⟩ := h
  obtain ⟨q1, q2, q3, q4, q5, q6⟩ := bring_same z p
  exact ⟨q1.trans h1, q2.trans h2, q3.trans h3⟩
theorem bro_stay {P : Car C → Prop} {z : Car C} {order : List Int} (h : P z) (k : ∀ p, P (bringC z p)) : P (broC z order).2 := by
  unfold broC
  split
  · exact h
  · exact k _
end GL
namespace GL
open PySem PySem.Spec PyProof.Rows L2
variable {C : Addr}
theorem beat_lacks {order : List Int} {asks : Bool} {z : Car C} {ticks : List Int} {now : Int} (h0 : z.still = false) (h1 : lksM z ≠ []) : beatC order asks (z, ticks) now = (if asks = true then bringC z (ix (lksM z) 0) else (broC z order).2, ticks) := by
  unfold beatC
  dsimp only
  rw [tickC_lacks h0 h1]
  dsimp only
  rw [decide_eq_true rfl, if_neg (by decide)]
  cases asks with
  | true => rfl
  | false => rfl
theorem beat_goes {order : List Int} {asks : Bool} {z : Car C} {ticks : List Int} {now : Int} (h0 : z.still = false) (h1 : lksM z = []) : beatC order asks (z, ticks) now = ((broC (wentM z (tickM z.g z.st z.wait)) order).2, ticks ++ [now]) := by
  unfold beatC
  dsimp only
  rw [tickC_goes h0 h1]
  dsimp only
  rw [if_pos tick_noLack]
theorem GnC.step {g : Prog} {s b : Stand} {t : Int} {left order : List Int} {asks : Bool} {now : Int} {st : Car C × List Int} (h : GnC g s b t left order asks now st) (hg : ProgOk g) (hs : StandOk g s) (hb : StandOk g b) (ht : 0 ≤ t) (ho : ∀ p ∈ left, p ∈ order)
    (hcov : ∀ x, 0 ≤ x → x < g.a → x ∈ order) (hord : ∀ x ∈ order, 0 ≤ x ∧ x < 1000) : GnC g s b t left order asks (now + 1) (beatC order asks st now) := by
  obtain ⟨z, ticks⟩ := st
  obtain ⟨h1, h2, h3, hle, came0, written, now0, hst, came, hab, hgo⟩ := h
  dsimp only at h1 h2 h3 hle hst hab hgo
  have hrow := tick_rows (l := z.wait) hg (by have := (run_ok hg hb (LetsOk.nil g) (rng 0 ticks.length)).1; rw [← h2.st] at this; exact this : StandOk g z.st)
  rw [← h2.gg] at hrow
  have hga : z.g.a = g.a := by rw [h2.gg]
  have hr : ∀ x ∈ (tickM z.g z.st z.wait).d.l, x ∈ dueL order left := fun x hx => dueL_mem.mpr (hcov x (hrow.1.bd x hx).1 (by have := (hrow.1.bd x hx).2; omega))
  have hrF : ∀ x ∈ ((tickM z.g z.st z.wait).d.l.filter fun p => decide (p ∈ left)), x ∈ dueL order left := fun x hx => hr x (List.mem_filter.mp hx).1
  have hdb : ∀ x ∈ dueL order left, 0 ≤ x ∧ x < 1000 := fun x hx => hord x (dueL_mem.mp hx)
  have hlk : lksM z = laM ((tickM z.g z.st z.wait).d.l.filter fun p => decide (p ∈ left)) written came now := by rw [lks_tick h2.wait, la_ab hab hgo.2.1]
  by_cases hl : lksM z = []
  · rw [beat_goes h3 hl]
    obtain ⟨_, hc, f, hf, _⟩ := hgo
    dsimp only at hc hf
    have hla := hlk.symm.trans hl
    rw [goM_end (by exact hla)] at hf
    have e1 : (((ticks ++ [now]).length : Nat) : Int) = (ticks.length : Int) + 1 := by rw [List.length_append, List.length_singleton]; rfl
    have hk0 : (0 : Int) ≤ (ticks.length : Int) := Int.natCast_nonneg _
    have hstep : plStep (dueL order left) asks (came0, written, ticks, now0) (filR left ((tickM z.g z.st z.wait).d, (tickM z.g z.st z.wait).e)) = ((cutL (leM (dueL order left) (wrD written (tickM z.g z.st z.wait).e.l) came) none (some 1)).foldl (fun d p => d.put p now) came, wrD written (tickM z.g z.st z.wait).e.l, ticks ++ [now], now + 1) := by
      unfold plStep filR
      dsimp only
      rw [← hf]
    have hc1 : CameOk ((cutL (leM (dueL order left) (wrD written (tickM z.g z.st z.wait).e.l) came) none (some 1)).foldl (fun d p => d.put p now) came) (now + 1) :=
      puts_ok _ (fun x hx => hdb x (List.mem_filter.mp (List.mem_of_mem_drop (List.mem_of_mem_take hx))).1) (fun x c e => by have := hc.1 x c e; omega) hc.2
    refine ⟨?_, ?_, ?_, ?_, ?_⟩
    · dsimp only
      rw [e1, ← Int.add_assoc]
      exact bro_stay (P := CarRun g s [] (t + ticks.length + 1) (t + ticks.length + 1)) (h1.went (by omega) (run_ok hg hs (LetsOk.nil g) _).2).av fun p => (h1.went (by omega) (run_ok hg hs (LetsOk.nil g) _).2).av.stay p
    · dsimp only
      rw [e1]
      exact bro_stay (P := BRun g b (ticks.length + 1)) (h2.went hk0) fun p => (h2.went hk0).stay p
    · exact bro_stay (P := fun z => z.still = false) h3 fun p => (bring_same _ p).2.2.2.1.trans h3
    · dsimp only
      rw [e1]
      omega
    · refine ⟨_, _, _, ?_, _, bro_next (z := wentM z (tickM z.g z.st z.wait)) (hab.wr (tickM z.g z.st z.wait).e.l) ho (now := now), rfl, hc1, _, rfl, Nat.lt_succ_of_le (List.length_filter_le _ _)⟩
      dsimp only
      rw [e1, h2.tou hk0, List.map_append, List.foldl_append, hst]
      exact hstep
  · rw [beat_lacks h3 hl]
    have hl' := hl
    rw [hlk] at hl'
    have e : (if asks = true then bringC z (ix (lksM z) 0) else (broC z order).2) = bringC z (goX ((tickM z.g z.st z.wait).d.l.filter fun p => decide (p ∈ left)) (dueL order left) written asks (came, now)) := by
      cases asks with
      | true => rw [if_pos rfl, hlk]; rfl
      | false => rw [if_neg (by decide), bro_x hab hgo.2.1 hr hl']
    rw [e]
    obtain ⟨q1, q2, q3, q4, q5, q6⟩ := bring_same z (goX ((tickM z.g z.st z.wait).d.l.filter fun p => decide (p ∈ left)) (dueL order left) written asks (came, now))
    refine ⟨h1.stay _, h2.stay _, q4.trans h3, by dsimp only; omega, came0, written, now0, hst, came.put (goX ((tickM z.g z.st z.wait).d.l.filter fun p => decide (p ∈ left)) (dueL order left) written asks (came, now)) now, ?_, ?_⟩
    rotate_left
    · dsimp only
      rw [q1, q2, q3]
      exact (hgo.next hrF hdb hl').1
    · dsimp only
      rw [bring_ab]
      exact hab.come _ _
theorem last_cnt {ticks : List Int} {L : Int} (hp : (ticks ++ [L]).Pairwise (· < ·)) (h0 : ∀ x ∈ ticks, 0 ≤ x) (hL : 0 ≤ L) : ((((rng 0 L).filter fun x => !decide (x ∈ ticks ++ [L])).length : Nat) : Int) = L - ticks.length := by
  obtain ⟨p1, _, p3⟩ := List.pairwise_append.mp hp
  have e1 : ((rng 0 L).filter fun x => decide (x ∈ ticks)).Perm ticks := by
    refine (List.perm_ext_iff_of_nodup ((rng_nodup 0 L).filter _) (p1.imp fun q => by omega)).mpr fun x => ?_
    rw [List.mem_filter, mem_rng]
    refine ⟨fun q => of_decide_eq_true q.2, fun q => ⟨⟨h0 x q, p3 x q L (by simp)⟩, decide_eq_true q⟩⟩
  have e2 : ((rng 0 L).filter fun x => !decide (x ∈ ticks ++ [L])) = (rng 0 L).filter fun x => !decide (x ∈ ticks) := List.filter_congr fun x hx => by
    have := (mem_rng.mp hx).2
    have ne : x ≠ L := by omega
    congr 1
    rw [decide_eq_decide, List.mem_append, List.mem_singleton]
    exact ⟨fun q => q.resolve_right ne, .inl⟩
  have e3 : ∀ l : List Int, (l.filter fun x => decide (x ∈ ticks)).length + (l.filter fun x => !decide (x ∈ ticks)).length = l.length := by
    intro l
    induction l with
    | nil => rfl
    | cons x l ih =>
      rw [List.filter_cons, List.filter_cons]
      by_cases h : x ∈ ticks <;> simp [h] at ih ⊢ <;> omega
  have e4 := e3 (rng 0 L)
  rw [e1.length_eq, len_rng] at e4
  rw [e2]
  omega
theorem pair_up {xs : List Int} (h : ∀ k : Nat, k + 1 < xs.length → xs.getD k 0 + 1 ≤ xs.getD (k + 1) 0) : xs.Pairwise (· < ·) := by
  rw [List.pairwise_iff_getElem]
  intro i j hi hj hij
  have key : ∀ d : Nat, i + d + 1 < xs.length → xs.getD i 0 < xs.getD (i + d + 1) 0 := by
    intro d
    induction d with
    | zero => intro hd; have := h i hd; rw [Nat.add_zero]; omega
    | succ d ih => intro hd; have := ih (by omega); have h2 := h (i + d + 1) hd; rw [show i + (d + 1) + 1 = i + d + 1 + 1 by omega]; omega
  have k := key (j - i - 1) (by omega)
  rw [show i + (j - i - 1) + 1 = j by omega] at k
  rw [List.getD_eq_getElem?_getD, List.getD_eq_getElem?_getD, List.getElem?_eq_getElem hi, List.getElem?_eq_getElem hj] at k
  exact k
def lastM (ticks : List Int) : Int := ix (ticks ++ [0]) ((ticks.length : Int) - (if ticks = [] then 0 else 1))
structure GnE (ticks : List Int) (some : Tch) (due : List Int) (asks : Bool) : Prop where
  fst : (playG some due asks).1 = ticks
  snd : (playG some due asks).2 = (((rng 0 (lastM ticks)).filter fun x => !decide (x ∈ ticks)).length : Nat)
theorem GnC.fin {g : Prog} {s b : Stand} {t : Int} {left order : List Int} {asks : Bool} {now : Int} {st : Car C × List Int} (h : GnC g s b t left order asks now st) (hg : ProgOk g) (hb : StandOk g b)
    (hcov : ∀ x, 0 ≤ x → x < g.a → x ∈ order) (hord : ∀ x ∈ order, 0 ≤ x ∧ x < 1000) : GnE st.2 ((runM g b [] st.2.length).c.map (filR left)) (dueL order left) asks := by
  obtain ⟨z, ticks⟩ := st
  obtain ⟨_, _, _, _, came0, written, now0, hst, _⟩ := h
  dsimp only at hst ⊢
  have ey : (runM g b [] ticks.length).c = (runF g b [] (rng 0 ticks.length)).2.2.2 := by unfold runM; rfl
  have hy : TchOk g.a ((runM g b [] ticks.length).c.map (filR left)) := by rw [ey]; exact fil_ok (run_rows hg hb _)
  rw [← ey] at hst
  have hlen : ((runM g b [] ticks.length).c.map (filR left)).length = ticks.length := by rw [List.length_map, ey, (run_len _).1, len_rng]; omega
  have hga := hg.n1
  obtain ⟨CC, p⟩ := plb (asks := asks) (by omega) (fun x a b => dueL_mem.mpr (hcov x a b)) (fun x hx => hord x (dueL_mem.mp hx)) ((runM g b [] ticks.length).c.map (filR left)) hy
  have hp := play_lost p
  rw [hst, hlen] at hp
  rw [hst] at p
  refine ⟨hp.2, ?_⟩
  rw [hp.1]
  dsimp only
  rcases List.eq_nil_or_concat ticks with q | ⟨i, l, q⟩
  · subst q
    have hz := p.z (by rw [hlen]; rfl)
    dsimp only at hz
    rw [hz]
    rfl
  · have q' : ticks = i ++ [l] := by rw [q]; simp
    subst q'
    have hls := p.ls (by rw [hlen, List.length_append, List.length_singleton]; omega)
    rw [hlen] at hls
    dsimp only at hls
    have hlast : (i ++ [l]).getD ((i ++ [l]).length - 1) 0 = l := by simp
    rw [hlast] at hls
    have hlM : lastM (i ++ [l]) = l := by
      unfold lastM ix
      rw [if_neg (by simp), List.length_append, List.length_singleton, show (((i.length + 1 : Nat) : Int) - 1).toNat = i.length by omega]
      simp
    have hup := pair_up fun k hk => p.up k (by rw [hlen]; exact hk)
    have hn : ∀ x ∈ i ++ [l], 0 ≤ x := fun x hx => by
      obtain ⟨k, hk, e⟩ := List.getElem_of_mem hx
      have h9 := p.lo k (by rw [hlen]; exact hk)
      dsimp only at h9
      rw [List.getD_eq_getElem?_getD, List.getElem?_eq_getElem hk] at h9
      have h8 : (0 : Int) ≤ mN (((runM g b [] ((i ++ [l]).length : Nat)).c.map (filR left)).take (k + 1)) := by unfold mN; omega
      rw [← e]
      exact Int.le_trans h8 h9
    rw [hlM, last_cnt hup (fun x hx => hn x (List.mem_append_left _ hx)) (hn l (by simp)), List.length_append, List.length_singleton]
    omega
end GL
namespace GL
open PySem PySem.Spec PyProof.Rows L2
variable {C : Addr}
def EarI (g : Prog) (s : Stand) (n : Nat) (z : Car C) : Prop := ∃ (cps : List (Int × Int)) (t : Int), 0 ≤ t ∧ t + cps.length = n ∧ CarRun g s [] t t z ∧ Going 2 cps (runF g s [] (rng 0 t)).2.2.2 z ∧ ∀ c ∈ cps, 0 ≤ c.1 ∧ c.1 ≤ t
theorem EarI.start {g : Prog} {s : Stand} {z z' : Car C} (h : ∃ a w s_ f b, z = Car.mk a w s_ f b g s 3 0 [] [] 0 none false Dct.emp 0 Dct.emp) (hb : BegR z 2 z') : EarI g s 0 z' := by
  obtain ⟨a, w, s_, f, b, rfl⟩ := h
  obtain ⟨f', rfl⟩ := hb
  exact ⟨[], 0, Int.le_refl _, rfl, CarRun.start rfl rfl rfl rfl rfl, ⟨rfl, rfl, rfl, rfl, fun p => rfl, Nat.le_refl _⟩, fun c h => nomatch h⟩
theorem EarI.copy {g : Prog} {s : Stand} {n : Nat} {z : Car C} (h : EarI g s n z) (p : Int) : EarI g s (n + 1) (copyC z p) := by
  obtain ⟨cps, t, ht, hn, h1, h2, h3⟩ := h
  refine ⟨cps ++ [(t, p)], t, ht, by rw [List.length_append, List.length_singleton]; omega, ?_, h2.copy (tou_lenI ht).symm, fun c hc => ?_⟩
  · unfold copyC; exact ⟨h1.gg, h1.st, h1.wait, h1.done, h1.sl⟩
  · rcases List.mem_append.mp hc with q | q
    · exact h3 c q
    · rw [List.mem_singleton.mp q]; exact ⟨ht, Int.le_refl _⟩
theorem EarI.tick {g : Prog} {s : Stand} {n : Nat} {z : Car C} (h : EarI g s n z) (hg : ProgOk g) (hs : StandOk g s) : EarI g s (n + 1) (tickC z).2 := by
  obtain ⟨cps, t, ht, hn, h1, h2, h3⟩ := h
  obtain ⟨q1, q2, q3, q4⟩ := go_tick hs hg (LetsOk.nil g) ht h1 h2 h3
  exact ⟨cps, t + 1, by omega, by omega, q1.av, q2, fun c hc => by have := h3 c hc; omega⟩
theorem EarI.ok {g : Prog} {s : Stand} {n : Nat} {z : Car C} (h : EarI g s n z) (hg : ProgOk g) (hs : StandOk g s) (hn : n ≤ 1000) : CarOk z := by
  obtain ⟨cps, t, ht, hn, h1, h2, h3⟩ := h
  exact h1.ok hg hs (LetsOk.nil _) (by omega)
theorem EarI.cp {g : Prog} {s : Stand} {n : Nat} {z : Car C} (h : EarI g s n z) (hn : n ≤ 1000) : (z.goal.isSome = true ∧ z.still = false) ∧ z.fresh.l.length ≤ 100000 := by
  obtain ⟨cps, t, ht, hn, h1, h2, h3⟩ := h
  have := h2.fl
  exact ⟨⟨by rw [h2.goal]; rfl, h2.still⟩, by omega⟩
theorem EarI.st {g : Prog} {s : Stand} {n : Nat} {z : Car C} (h : EarI g s n z) (hg : ProgOk g) : (z.goal.isSome = true ∧ z.still = false) ∧ 0 ≤ z.g.a ∧ z.g.a ≤ 1000 := by
  obtain ⟨cps, t, ht, hn, h1, h2, h3⟩ := h
  have a1 := hg.n0
  have a2 := hg.n1
  exact ⟨⟨by rw [h2.goal]; rfl, h2.still⟩, by rw [h1.gg]; omega, by rw [h1.gg]; omega⟩
theorem EarI.ea {g : Prog} {s : Stand} {n : Nat} {z : Car C} (h : EarI g s n z) (hg : ProgOk g) : (((stillC z).goal.isSome = true ∧ (stillC z).still = true) ∧ 0 ≤ (stillC z).g.a ∧ (stillC z).g.a ≤ 1000) ∧ (stillC z).absent.l.length ≤ 100000 := by
  obtain ⟨cps, t, ht, hn, h1, h2, h3⟩ := h
  have a1 := hg.n0
  have a2 := hg.n1
  unfold stillC
  refine ⟨⟨⟨by show z.goal.isSome = true; rw [h2.goal]; rfl, rfl⟩, by show 0 ≤ z.g.a; rw [h1.gg]; omega, by show z.g.a ≤ 1000; rw [h1.gg]; omega⟩, by show z.absent.l.length ≤ 100000; rw [h2.ab]; simp⟩
structure EarR (g : Prog) (s : Stand) (z : Car C) (left : List Int) : Prop where
  run : ∃ t, 0 ≤ t ∧ t ≤ 1000 ∧ CarRun g s [] t t z
  still : z.still = false
  ab : ∀ p, (z.absent.get? p).isSome = decide (p ∈ left)
  bd : ∀ p ∈ left, 0 ≤ p ∧ p < g.a
  len : left.length ≤ 12
theorem EarI.fin {g : Prog} {s : Stand} {n : Nat} {z : Car C} (h : EarI g s n z) (hg : ProgOk g) (hn : n ≤ 1000) : EarR g s (goesC (lackC (stillC z) (lfM (stillC z)))) (lfM z) := by
  obtain ⟨cps, t, ht, hn, h1, h2, h3⟩ := h
  have hl : ∀ p ∈ lfM z, 0 ≤ p ∧ p < g.a := fun p hp => by
    unfold lfM at hp
    rw [h1.gg] at hp
    exact mem_rng.mp (List.mem_filter.mp hp).1
  have hlen : (lfM z).length ≤ 12 := by
    have h8 := clf_len z
    have h9 := hg.n1
    rw [h1.gg] at h8
    omega
  rw [lf_still]
  generalize lfM z = L at hl hlen ⊢
  refine ⟨⟨t, ht, by omega, ?_⟩, ?_, fun p => ?_, hl, hlen⟩
  · unfold goesC lackC stillC
    exact ⟨h1.gg, h1.st, h1.wait, h1.done, h1.sl⟩
  · unfold goesC lackC stillC
    rfl
  · unfold goesC lackC stillC
    show ((L.foldl (fun d p => d.put p true) z.absent).get? p).isSome = _
    rw [puts_get, noLack_emp h2.ab p, Bool.or_false]
def RunI (g : Prog) (m : Int) (z : Car C) : Prop := ∃ s t, StandOk g s ∧ CarRun g s [] t t z ∧ 0 ≤ t ∧ t ≤ m ∧ z.still = false
theorem RunI.bring {g : Prog} {m : Int} {z : Car C} (h : RunI g m z) (p : Int) : RunI g m (bringC z p) := by
  obtain ⟨s, t, h1, h2, h3, h4, h5⟩ := h
  exact ⟨s, t, h1, h2.stay p, h3, h4, (bring_same z p).2.2.2.1.trans h5⟩
theorem RunI.ok {g : Prog} {m : Int} {z : Car C} (h : RunI g m z) (hg : ProgOk g) (hm : m ≤ 100000) : CarOk z := by
  obtain ⟨s, t, h1, h2, h3, h4, h5⟩ := h
  exact h2.ok hg h1 (LetsOk.nil _) (by omega)
theorem RunI.mono {g : Prog} {m m' : Int} {z : Car C} (h : RunI g m z) (hm : m ≤ m') : RunI g m' z := by
  obtain ⟨s, t, h1, h2, h3, h4, h5⟩ := h
  exact ⟨s, t, h1, h2, h3, by omega, h5⟩
theorem RunI.tick {g : Prog} {m : Int} {z : Car C} (h : RunI g m z) (hg : ProgOk g) : RunI g (m + 1) (tickC z).2 := by
  obtain ⟨s, t, h1, h2, h3, h4, h5⟩ := h
  by_cases hl : lksM z = []
  · rw [tickC_goes h5 hl]
    exact ⟨s, t + 1, h1, (h2.went h3 (run_ok hg h1 (LetsOk.nil g) _).2).av, by omega, by omega, h5⟩
  · rw [tickC_lacks h5 hl]
    exact ⟨s, t, h1, h2, h3, by omega, h5⟩
theorem RunI.bro {g : Prog} {m : Int} {z : Car C} (h : RunI g m z) (order : List Int) : RunI g m (broC z order).2 := bro_stay (P := RunI g m) h fun p => h.bring p
theorem RunI.beat {g : Prog} {m : Int} {order : List Int} {asks : Bool} {st : Car C × List Int} {now : Int} (h : RunI g m st.1) (hg : ProgOk g) : RunI g (m + 1) (beatC order asks st now).1 := by
  unfold beatC
  split
  · exact (h.tick hg).bro order
  split
  · exact (h.tick hg).bring _
  · exact (h.tick hg).bro order
theorem beat_a {order : List Int} {asks : Bool} {st : Car C × List Int} {now : Int} : (beatC order asks st now).1.a = st.1.a := by
  have h := fp_a_eq (tickC_fp st.1)
  have h1 : ∀ z : Car C, (broC z order).2.a = z.a := fun z => fp_a_eq (bro_fp z order)
  have h2 : ∀ (z : Car C) p, (bringC z p).a = z.a := fun z p => fp_a_eq (bring_fp z p)
  unfold beatC
  split
  · exact (h1 _).trans h
  split
  · exact (h2 _ _).trans h
  · exact (h1 _).trans h
theorem gone_a {order : List Int} {asks : Bool} : ∀ (l : List Int) (st : Car C × List Int), (l.foldl (beatC order asks) st).1.a = st.1.a
  | [], st => rfl
  | x :: l, st => by rw [List.foldl_cons, gone_a l]; exact beat_a
theorem gone_len {order : List Int} {asks : Bool} : ∀ (l : List Int) (st : Car C × List Int), (l.foldl (beatC order asks) st).2.length ≤ st.2.length + l.length
  | [], st => Nat.le_refl _
  | x :: l, st => by
    rw [List.foldl_cons, List.length_cons]
    have h := gone_len (order := order) (asks := asks) l (beatC order asks st x)
    have h2 : (beatC order asks st x).2.length ≤ st.2.length + 1 := by
      unfold beatC
      split
      · simp
      split <;> simp
    omega
theorem lacks_one {z : Car C} (h0 : z.still = false) (h : decide ((tickC z).1.w = Str.ofString "lacks") = true) : 0 < (tickC z).1.r.length ∧ (ix (tickC z).1.r 0).isSome = true ∧ ((tickC z).2.absent.get? ((ix (tickC z).1.r 0).getD default)).isSome = true := by
  by_cases hl : lksM z = []
  · rw [tickC_goes h0 hl] at h
    dsimp only at h
    rw [tick_noLack] at h
    cases h
  · rw [tickC_lacks h0 hl]
    refine ⟨Nat.one_pos, rfl, ?_⟩
    have h1 := ix0_mem hl
    show (z.absent.get? (ix (lksM z) 0)).isSome = true
    unfold lksM at h1 ⊢
    cases e : rowAtM z.g z.st with
    | none => rw [e] at h1; cases h1
    | some r =>
      rw [e] at h1
      exact (List.mem_filter.mp h1).2
theorem gone_run {g : Prog} {s b : Stand} {t : Int} {left order : List Int} {asks : Bool} (hg : ProgOk g) (hs : StandOk g s) (hb : StandOk g b) (ht : 0 ≤ t) (ho : ∀ p ∈ left, p ∈ order) (hcov : ∀ x, 0 ≤ x → x < g.a → x ∈ order) (hord : ∀ x ∈ order, 0 ≤ x ∧ x < 1000) {z : Car C} (h : GnC g s b t left order asks 0 (z, [])) :
    ∀ k : Nat, GnC g s b t left order asks k ((rng 0 k).foldl (beatC order asks) (z, []))
  | 0 => h
  | k + 1 => by
    have ih := gone_run hg hs hb ht ho hcov hord h k
    rw [show (((k + 1 : Nat) : Int)) = (k : Int) + 1 from rfl, rng_succ (Int.natCast_nonneg _), List.foldl_append]
    exact ih.step hg hs hb ht ho hcov hord
theorem find_bro {z : Car C} {order pre post : List Int} {p : Int} (e : pre ++ p :: post = order) (h : ∀ y ∈ pre, (z.absent.get? y).isSome = false) (hp : (z.absent.get? p).isSome = true) : broC z order = (true, bringC z p) := by
  unfold broC
  rw [← e, List.find?_append, List.find?_eq_none.mpr (fun y hy => by rw [h y hy]; decide), Option.none_or, List.find?_cons, hp]
theorem no_bro {z : Car C} {order : List Int} (h : ∀ y ∈ order, (z.absent.get? y).isSome = false) : broC z order = (false, z) := by
  unfold broC
  rw [List.find?_eq_none.mpr (fun y hy => by rw [h y hy]; decide)]
end GL
namespace GL
open PySem PySem.Spec PyProof.Rows L2
variable {C : Addr}
section
variable {z z1 : Car C} {told : Tw} {order ticks : List Int} {asks : Bool} {now : Int}
theorem beat1 (h1 : told = (tickC z).1) (h2 : z1 = (tickC z).2) (hb : (!decide (told.w = Str.ofString "lacks")) = true) : ((broC z1 order).2, ticks ++ [now]) = beatC order asks (z, ticks) now := by
  unfold beatC
  dsimp only
  rw [← h1, ← h2, if_pos (by simpa using hb)]
theorem beat2 (h1 : told = (tickC z).1) (h2 : z1 = (tickC z).2) (hb : (!decide (told.w = Str.ofString "lacks")) = false) (ha : asks = true) : (bringC z1 ((ix told.r 0).getD default), ticks) = beatC order asks (z, ticks) now := by
  unfold beatC
  dsimp only
  rw [← h1, ← h2, if_neg (by simpa using hb), if_pos ha]
theorem beat3 (h1 : told = (tickC z).1) (h2 : z1 = (tickC z).2) (hb : (!decide (told.w = Str.ofString "lacks")) = false) (ha : asks = false) : ((broC z1 order).2, ticks) = beatC order asks (z, ticks) now := by
  unfold beatC
  dsimp only
  rw [← h1, ← h2, if_neg (by simpa using hb), if_neg (by rw [ha]; decide)]
theorem RunI.still {g : Prog} {m : Int} {z : Car C} (h : RunI g m z) : z.still = false := by
  obtain ⟨s, t, h1, h2, h3, h4, h5⟩ := h
  exact h5
theorem RunI.gg {g : Prog} {m : Int} {z : Car C} (h : RunI g m z) : z.g = g := by
  obtain ⟨s, t, h1, h2, h3, h4, h5⟩ := h
  exact h2.gg
end
end GL
namespace GL
open PySem PySem.Spec PyProof.Rows L2
variable {C : Addr}
theorem gone_mem {order : List Int} {asks : Bool} : ∀ (l : List Int) (st : Car C × List Int), ∀ x ∈ (l.foldl (beatC order asks) st).2, x ∈ st.2 ∨ x ∈ l
  | [], st, x, hx => .inl hx
  | y :: l, st, x, hx => by
    rw [List.foldl_cons] at hx
    rcases gone_mem l _ x hx with q | q
    · unfold beatC at q
      split at q
      · rcases List.mem_append.mp q with q | q
        · exact .inl q
        · rw [List.mem_singleton.mp q]; exact .inr List.mem_cons_self
      split at q
      · exact .inl q
      · exact .inl q
    · exact .inr (List.mem_cons_of_mem _ q)
theorem EarR.pre {g : Prog} {s : Stand} {z : Car C} {left : List Int} (h : EarR g s z left) (hg : ProgOk g) (hs : StandOk g s) : ProgOk z.g ∧ RunI z.g 5000 z := by
  obtain ⟨⟨t, h0, h1, h2⟩, h3, _, _, _⟩ := h
  rw [h2.gg]
  exact ⟨hg, s, t, hs, h2, h0, by omega, h3⟩
structure RightI (g : Prog) (s b : Stand) (order left ticks : List Int) (asks : Bool) (z : Car C) : Prop where
  bo : StandOk g b
  len : ticks.length ≤ 40
  lo : 0 ≤ lastM ticks ∧ lastM ticks ≤ 40
  ge : GnE ticks ((runM g b [] ticks.length).c.map (filR left)) (dueL order left) asks
  st : z.st = (runM g s [] z.done).a
  dn : 0 ≤ z.done ∧ z.done ≤ 10000
  tch : TchOk g.a ((runM g b [] ticks.length).c.map (filR left))
  sl : ((runM g b [] ticks.length).c.map (filR left)).length = ticks.length
theorem right_ok {g : Prog} {s b : Stand} {order left ticks : List Int} {asks : Bool} {z z1 zE : Car C} (hg : ProgOk g) (hs : StandOk g s) (he : EarR g s z left) (hop : order.Perm (rng 0 g.a)) (hb : b = z.st) (h1 : z1 = z)
    (hR : ticks = ((rng 0 40).foldl (beatC order asks) (z1, [])).2 ∧ zE = ((rng 0 40).foldl (beatC order asks) (z1, [])).1) : RightI g s b order left ticks asks zE := by
  subst hb h1
  obtain ⟨hR1, hR2⟩ := hR
  obtain ⟨⟨t, h0, h1, h2⟩, h3, hab, hbd, _⟩ := he
  have hb : StandOk g z1.st := by rw [h2.st]; exact (run_ok hg hs (LetsOk.nil g) _).1
  have hg1 := hg.n1
  have hcov : ∀ x, 0 ≤ x → x < g.a → x ∈ order := fun x a b => hop.mem_iff.mpr (mem_rng.mpr ⟨a, b⟩)
  have hord : ∀ x ∈ order, 0 ≤ x ∧ x < 1000 := fun x hx => by have := mem_rng.mp (hop.mem_iff.mp hx); omega
  have hg0 := gone_run hg hs hb h0 (fun p hp => hcov p (hbd p hp).1 (hbd p hp).2) hcov hord (GnC.start (order := order) (asks := asks) h2 h3 hab) 40
  have hlen := gone_len (order := order) (asks := asks) (rng 0 40) (z1, [])
  rw [← hR1, len_rng] at hlen
  have hmem := gone_mem (order := order) (asks := asks) (rng 0 40) (z1, [])
  rw [← hR1] at hmem
  have hx : (((rng 0 ((40 : Nat) : Int)).foldl (beatC order asks) (z1, []))) = (zE, ticks) := by rw [hR1, hR2]; rfl
  rw [hx] at hg0
  have hlen' : ticks.length ≤ 40 := by simpa using hlen
  have hrun := hg0.run
  dsimp only at hrun
  have ey : (runM g z1.st [] ticks.length).c = (runF g z1.st [] (rng 0 ticks.length)).2.2.2 := by unfold runM; rfl
  refine ⟨hb, hlen', ?_, hg0.fin hg hb hcov hord, ?_, ?_, ?_, ?_⟩
  · have hi : ∀ x ∈ ticks ++ [0], 0 ≤ x ∧ x ≤ 40 := fun x hx => by
      rcases List.mem_append.mp hx with q | q
      · rcases hmem x q with q | q
        · cases q
        · have := mem_rng.mp q; omega
      · rw [List.mem_singleton.mp q]; omega
    refine hi _ (ix_mem ?_ ?_)
    · split
      · omega
      · rename_i hne
        have := List.length_pos_iff.mpr hne
        omega
    · rw [List.length_append, List.length_singleton]
      split <;> omega
  · rw [hrun.done, hrun.st]; unfold runM; rfl
  · rw [hrun.done]; omega
  · rw [ey]; exact fil_ok (run_rows hg hb _)
  · rw [List.length_map, ey, (run_len _).1, len_rng]; omega
theorem RightI.pre {g : Prog} {s b : Stand} {order left ticks : List Int} {asks : Bool} {z : Car C} (h : RightI g s b order left ticks asks z) (hg : ProgOk g) (hop : order.Perm (rng 0 g.a)) {some : Tch} {due : List Int} (hs : some = (runM g b [] ticks.length).c.map (filR left)) (hd : due = dueL order left) :
    (∃ n, n ≤ 1000 ∧ TchOk n some ∧ ∀ x, 0 ≤ x → x < n → x ∈ due) ∧ (∀ x ∈ due, 0 ≤ x ∧ x < 1000) ∧ due.length ≤ 1000 ∧ some.length ≤ 10000 := by
  subst hs hd
  have hg1 := hg.n1
  have h9 := h.len
  refine ⟨⟨g.a, by omega, h.tch, fun x a b => dueL_mem.mpr (hop.mem_iff.mpr (mem_rng.mpr ⟨a, b⟩))⟩, fun x hx => by have := mem_rng.mp (hop.mem_iff.mp (dueL_mem.mp hx)); omega, ?_, by rw [h.sl]; omega⟩
  rw [dueL_len, hop.length_eq, len_rng]
  omega
theorem RightI.least {g : Prog} {s b : Stand} {order left ticks : List Int} {asks : Bool} {z : Car C} (h : RightI g s b order left ticks asks z) (hg : ProgOk g) (hop : order.Perm (rng 0 g.a)) {some : Tch} {due : List Int} (hs : some = (runM g b [] ticks.length).c.map (filR left)) (hd : due = dueL order left) : (llM g.a some).b ≤ (playG some due asks).2 := by
  have hp := h.pre hg hop hs hd
  have hg1 := hg.n1
  obtain ⟨lost, shows, e1, hLL⟩ := ll_eq g.a some
  rw [e1]
  subst hs hd
  exact lost_ge (by omega) (fun x a b => dueL_mem.mpr (hop.mem_iff.mpr (mem_rng.mpr ⟨a, b⟩))) hp.2.1 h.tch hLL
end GL
namespace GL
open PySem PySem.Spec PyProof.Rows L2
theorem last_eqI {ticks : List Int} : (((ticks ++ [0]).length : Nat) : Int) + (-1 - (if (!decide (ticks = [])) = true then 1 else 0)) = (ticks.length : Int) - (if ticks = [] then 0 else 1) := by
  rw [List.length_append, List.length_singleton]
  by_cases e : ticks = []
  · rw [if_neg (by simp [e]), if_pos e]; omega
  · rw [if_pos (by simp [e]), if_neg e]; omega
theorem last_ix {ticks : List Int} : ix (ticks ++ [0]) ((((ticks ++ [0]).length : Nat) : Int) + (-1 - (if (!decide (ticks = [])) = true then 1 else 0))) = lastM ticks := by
  rw [last_eqI]
  rfl
theorem last_ge0 {ticks : List Int} : 0 ≤ (((ticks ++ [0]).length : Nat) : Int) + (-1 - (if (!decide (ticks = [])) = true then 1 else 0)) := by
  rw [last_eqI]
  split
  · omega
  · rename_i h
    have := List.length_pos_iff.mpr h
    omega
theorem last_lt0 {b : Bool} : (-1 : Int) - (if b = true then 1 else 0) < 0 := by split <;> decide
end GL
namespace GL
open PySem PySem.Spec PyProof.Rows L2
theorem rep_le1 {α : Type} {x : α} {n : Int} (h : n ≤ 1) : ((List.replicate n.toNat [x]).flatten).length ≤ 1 := by
  rw [List.length_flatten, List.map_replicate, List.sum_replicate_nat]
  simp
  omega
theorem ahead_len {α : Type} {a : List α} {x y : α} {b : Bool} {z : Pen} {k : Nat} (h : a.length ≤ 2 * k) : (a ++ (List.replicate (if b = true then (1 : Int) else 0).toNat [x]).flatten).length ≤ 2 * k + 1 ∧ (a ++ (List.replicate (if b = true then (1 : Int) else 0).toNat [x]).flatten ++ (List.replicate ((penTake z 5).1 / 3).toNat [y]).flatten).length ≤ 2 * (k + 1) := by
  have h5 := pen_bd z (m := 5) (by decide)
  have h1 : ((List.replicate (if b = true then (1 : Int) else 0).toNat [x]).flatten).length ≤ 1 := rep_le1 (by split <;> decide)
  have h2 : ((List.replicate ((penTake z 5).1 / 3).toNat [y]).flatten).length ≤ 1 := rep_le1 (by omega)
  rw [List.length_append, List.length_append, List.length_append]
  omega
theorem third_bd (z : Pen) : (penTake z 5).1 / 3 < 9223372036854775808 ∧ -9223372036854775808 ≤ (penTake z 5).1 / 3 := by
  have h5 := pen_bd z (m := 5) (by decide)
  omega
end GL
namespace GL
open PySem PySem.Spec PyProof.Rows L2
section
variable {y : Tch} {lost : Int} {shows : Option Int} {found : T3 (List Int) Int (Option Int)}
end
end GL
namespace GL
open PySem PySem.Spec PyProof.Rows L2
def spCRL {α β : Type} [PyA α] [Py β] (K : Fg) (C : Addr) (R : α → Car C → β → Prop) (pre : α → Prop) : Sp := fun vs H Q _ => ∃ (S : Hp) (a : α), Same S H ∧ PyA.rep K S vs a ∧ pre a ∧
  ∀ (z : Car C) (x : β) S' H' D v, R a z x → Grow S H S' H' → (∀ p ∈ z.fp, H p = none ∧ S' p = none) → Own.own K S' H' (.ref z.a) z.fp z → SqT K H' D [.ref z.a, v] → Py.rep K S' v x → Q (.ref D) H'
section
variable {P : Program} {w : World} {K : Fg} {mg : Str → Option Value} {base : Heap} {α β : Type} [Sls α] [Py β] {C : Addr}
theorem def_spCRL {x : Str} {st : Stmt} {N ps : List Str} {k : Nat} {R : α → Car C → β → Prop} {pre : α → Prop} (D : Def K mg x st ps) (S : FnScope N ps (defScope st)) (hn : PyA.n α = ps.length)
    (h : ∀ (fa : Addr) (cdv : Value) (A : Around) (outer : List Env) (s : Shared) (H : Hp) (E : XK), Room k (A.deeper (envOfC x (defScope st) s.heap.objs.size fa cdv)) →
      ∃ t, PSs (cxOf CX0 P w K mg base N x (defScope st) fa cdv A outer s H E).nox (defBody st) t ∧
        ∀ (a : α), pre a → ∀ (B S0 : Hp) (Q : VK), (∀ (G' : List Sl) (z : Car C) (y : β) (j : Nat), G'[j]? = some (.ow z) → R a z y → ∀ S σ H F D v, Kn K B S0 S σ H F G' → SqT K H D [.ref z.a, v] → Py.rep K S v y → Q (.ref D) H) → At K B S0 (t { nx := fun _ H' => Q .non H', rt := Q }) (Sls.sls a ++ List.replicate (N.length - PyA.n α) .no)) :
    Cal P w K mg base (k + 1) x ps (spCRL K C R pre) := by
  obtain ⟨fa, fd, m, F, b⟩ := D.ex
  refine ⟨fa, fd, m, F.ok S (fun vs H Q E ⟨S, a, _, r, _⟩ => (PyA.len r).trans hn) fun cdv A outer s H vs Q E hr ⟨S', a, e, r, hp, q⟩ => ?_, F.kp, b⟩
  obtain ⟨t, h1, h2⟩ := h fa cdv A outer s H E hr
  refine ⟨t, h1, h2 a hp H S' Q (fun G' z y j hj hR S1 σ1 H1 F1 D v k1 ht r1 => ?_) S' _ H _ (start_kn e r)⟩
  obtain ⟨q1, q2, dx, pv, sv, kf, kb, c⟩ := car_at k1 hj
  refine q z y S1 H1 D v hR ⟨k1.s0, k1.sub, k1.keep, k1.clean⟩ (fun p m => ?_) ⟨rfl, rfl, dx, pv, sv, kf, kb, c⟩ ht r1
  obtain ⟨a1, a2, _⟩ := k1.off j p (by rw [q2]; exact m)
  exact ⟨a2, a1⟩
end
section
variable {C : Addr} {K : Fg} {B S0 S1 S S' D : Hp} {σ : L2.St} {H H' : Hp} {F : Nat → List Addr} {G G' G1 G2 : List Sl} {i j l : Nat} {t : TA} {te : TE} {u : TS} {E : Ends} {Ex Ex' : XK} {m : Str}
variable {α β : Type} [PyA α] [Py β] {a : α} {x : β} {R : α → Car C → β → Prop} {pre' : α → Prop} {z : Car C}
theorem q_retCL (hj : G[j]? = some (.ow z)) (he : EvX K te G x G) (k : ∀ S σ H F D v, Kn K B S0 S σ H F G → SqT K H D [.ref z.a, v] → Py.rep K S v x → E.rt (.ref D) H) : At K B S0 (tSeq (tRet (tTup (tCons (tVar j) (tCons te tNil)))) u E) G := fun S σ H F kn => by
  obtain ⟨h1, _⟩ := car_at kn hj
  exact ⟨.ref z.a, h1, he B S0 S σ H F kn _ fun v S1 H1 e1 k1 r1 => ⟨by show 2 ≤ sizeLine; decide, fun p hp =>
    k _ σ _ F p v (k1.new hp) (SqT.of upd_same) (Py.mono (same_new (k1.free hp).1) r1)⟩⟩
theorem q_newCL (i l : Nat) (ha : EvA K t G a G1) (hp : pre' a) (hi : G1[i]?.isSome = true) (hl : G1[l]?.isSome = true) (k : ∀ (z : Car C) (x : β), R a z x → At K B S0 (u E) ((G1.set i (.ow z)).set l (.im x))) :
    At K B S0 (tSeq (tAsg (tCall (spCRL K C R pre') [] Ex t) (gTup K 2 (gCons (gName i) (gCons (gName l) gNil)))) u E) G := fun S σ H F kn =>
  ha B S0 S σ H F kn _ fun vs S1 H1 e1 k1 r1 => by
    show spCRL K C R pre' (vs ++ []) H1 _ Ex
    rw [List.append_nil]
    refine ⟨S1, a, k1.sub, r1, hp, fun z2 x S2 H2 D v hR g hn ho ht rv => ?_⟩
    have k2 := (k1.grow g).setOwns (v := .ref z2.a) (x := z2) (ps := z2.fp) ho hi fun p hp => by
      obtain ⟨a1, a2, a3⟩ := k1.free (hn p hp).1
      obtain ⟨_, _, dx, pv, sv, kf, kb, c⟩ := ho
      exact ⟨(hn p hp).2, a2, c.some hp, a3⟩
    have hl2 : (G1.set i (.ow z2))[l]?.isSome = true := by
      cases e : G1[l]? with
      | none => rw [e] at hl; cases hl
      | some y =>
        have h9 := (List.getElem?_eq_some_iff.mp e).1
        simp [h9]
    exact ⟨D, [.ref z2.a, v], rfl, ht, rfl, .ref z2.a, [v], rfl, v, [], rfl, rfl, k z2 x hR S2 _ H2 _ (k2.set rv hl2)⟩
theorem q_dropO {R : Car C → α → β → Car C → Prop} {pre : Car C → α → Prop} (hi : G[i]? = some (.ow z)) (ha : EvA K t G a G) (hp : pre z a) (ok : ∀ y z', R z a y z' → At K B S0 (u E) (G.set i (.ow z'))) :
    At K B S0 (tSeq (tDrop (tCall (spO K R pre) [] Ex (tCons (tVar i) t))) u E) G := fun S σ H F kn => by
  obtain ⟨h1, h2, dx, pv, sv, kf, kb, c⟩ := car_at kn hi
  refine ⟨.ref z.a, h1, ha B S0 S σ H F kn _ fun vs S1 H1 e1 k1 r1 => ?_⟩
  show spO K R pre (.ref z.a :: vs ++ []) H1 _ Ex
  rw [List.append_nil]
  obtain ⟨v1, h3, h4⟩ := k1.ow hi
  rw [h1] at h3
  cases h3
  exact ⟨S1, .ref z.a, vs, F i, z, a, rfl, k1.sub, h4, fun p hp => ⟨(k1.off i p hp).1, (k1.off i p hp).2.2⟩, r1, hp, fun v S2 H2 ps' y z' hR s1 s2 hk hc hl' ho r2 => ok y z' hR S2 _ H2 _ (k1.moved hi h1 s1 s2 hk hc hl' ho)⟩
theorem ev_twN {x : Tw} (ha : EvX K te G x G1) (h : 0 < x.r.length) : EvX K (tOp (rIxT K) te (tC (.int 1))) G (ix x.r 0) G1 := fun B S0 S σ H F k Q q =>
  ha B S0 S σ H F k _ fun v S1 H1 e1 k1 r1 => by
    obtain ⟨w, r⟩ := x
    cases r with
    | nil => cases h
    | cons y r =>
      obtain ⟨p, rfl, hp⟩ := r1
      refine ⟨p, _, 1, oV y, rfl, rfl, seqT k1.sub hp, atI_nat (j := 1) rfl, q _ S1 H1 e1 k1 ?_⟩
      cases y with
      | none => exact rfl
      | some y => exact rfl
end
theorem atI_below {α : Type} {vs : List α} {i : Int} {v : α} (h : i < 0) (h2 : 0 ≤ (vs.length : Int) + i) (e : vs[((vs.length : Int) + i).toNat]? = some v) : atI vs i = some v := by
  unfold atI ixN
  rw [if_neg (by omega)]
  rw [if_pos (by omega), show i + (vs.length : Int) = (vs.length : Int) + i by omega]
  exact e
theorem ev_ixNeg {K : Fg} {G G1 G2 : List Sl} {ta tb : TE} {α : Type} [Py α] [Inhabited α] {xs : List α} {n : Int} (ha : EvX K ta G xs G1) (hb : EvX K tb G1 n G2) (h : n < 0) (h2 : 0 ≤ (xs.length : Int) + n) : EvX K (tOp (rIxL K) ta tb) G (ix xs ((xs.length : Int) + n)) G2 := fun B S0 S σ H F k Q q =>
  ha B S0 S σ H F k _ fun v S1 H1 e1 k1 r1 => hb B S0 S1 σ H1 F k1 _ fun u S2 H2 e2 k2 r2 => by
    obtain ⟨p, vs, rfl, hp, hr⟩ := Py.mono e2 r1
    obtain ⟨w, h3, h4⟩ := hr.get (ix_at (xs := xs) (i := (xs.length : Int) + n) h2 (by omega))
    have hl := hr.len
    exact ⟨p, vs, n, w, rfl, r2, SqL.of (k2.sub _ _ hp), atI_below h (by rw [hl]; exact h2) (by rw [hl]; exact h3), q w S2 H2 (e1.trans e2) k2 h4⟩
def tPick2 (K : Fg) (sp1 sp2 : Sp) (E : XK) (ti : TE) (t : TA) : TE := fun σ H Q => ∀ f1 f2 : Addr, tOp (rIxL K) (tLst (tCons (tC (.ref f1)) (tCons (tC (.ref f2)) tNil))) ti σ H fun y H1 =>
  (y = .ref f1 ∧ t σ H1 fun vs H2 => sp1 vs H2 Q E) ∨ (y = .ref f2 ∧ t σ H1 fun vs H2 => sp2 vs H2 Q E)
theorem pe_pick2 {X : Cx} {j k1 k2 : Nat} {x1 x2 : Str} {ps1 ps2 : List Str} {sp1 sp2 : Sp} {ie e : Expr} {es : List Expr} {ti : TE} {t : TA} {p1 p2 q1 q2 pos : Pos} (c1 : Cal X.prog X.w X.K X.mg X.base k1 x1 ps1 sp1) (c2 : Cal X.prog X.w X.K X.mg X.base k2 x2 ps2 sp2) (hr : Room j X.A) (h1 : k1 ≤ j) (h2 : k2 ≤ j) (g1 : Gl X x1) (g2 : Gl X x2)
    (hi : PE X ie ti) (hs : PlainIx ie) (ha : PA X (e :: es) t) (hd1 : (x1 == ("__debug__" : Str)) = false := by decide) (hd2 : (x2 == ("__debug__" : Str)) = false := by decide)
    (he : starEach (e :: es) X.env = (false, eval e X.env) :: starEach es X.env := by rfl) (hpl : (backTo pos (starEach es X.env)).any (·.1) = false := by rfl)
    (ht : eval (.Call (.Subscript (.List [.Name x1 p1, .Name x2 p2] q1) ie q2) (e :: es) [] pos) X.env = (do callWith pos (← eval (.Subscript (.List [.Name x1 p1, .Name x2 p2] q1) ie q2) X.env) [] (backTo pos (starEach (e :: es) X.env)) (backToKw pos (keywordEach [] X.env))) := by rfl) :
    PE X (.Call (.Subscript (.List [.Name x1 p1, .Name x2 p2] q1) ie q2) (e :: es) [] pos) (tPick2 X.K sp1 sp2 E0 ti t) := by
  obtain ⟨f1, fd1, m1, F1, kp1, b1⟩ := c1.ex
  obtain ⟨f2, fd2, m2, F2, kp2, b2⟩ := c2.ex
  have hf : PE X (.Subscript (.List [.Name x1 p1, .Name x2 p2] q1) ie q2) (tOp (rIxL X.K) (tLst (tCons (tC (.ref f1)) (tCons (tC (.ref f2)) tNil))) ti) :=
    pe_ix (r := rIxL X.K) ix_list (pe_lst (pa_cons (pe_glob (v := .ref f1) g1 m1 rfl hd1) (pa_cons (pe_glob (v := .ref f2) g2 m2 rfl hd2) pa_nil))) hi hs
  refine ⟨fun pins s σ H Q I h => ?_⟩
  refine Call_ (thn (hf.run pins s σ H _ I (h f1 f2)) fun u s1 ⟨y, H1, I1, ry, q⟩ => ?_) ht
  rcases q with ⟨ey, q⟩ | ⟨ey, q⟩
  · subst ey
    obtain rfl : u = Value.ref f1 := ry
    exact PySem.W.callWith_K (h₀ := X.base) I.ok.mod.kin kp1 (thn (ha.run pos pins s1 σ H1 _ I1 q) fun us s2 ⟨vs, H2, I2, r, q2⟩ => ⟨I2.kIn, run_fn F1 (hr.mono h1) b1 .nil pass0 I2 r (by rw [List.append_nil]; exact q2)⟩) he hpl
  · subst ey
    obtain rfl : u = Value.ref f2 := ry
    exact PySem.W.callWith_K (h₀ := X.base) I.ok.mod.kin kp2 (thn (ha.run pos pins s1 σ H1 _ I1 q) fun us s2 ⟨vs, H2, I2, r, q2⟩ => ⟨I2.kIn, run_fn F2 (hr.mono h2) b2 .nil pass0 I2 r (by rw [List.append_nil]; exact q2)⟩) he hpl
section
variable {K : Fg} {B S0 : Hp} {G G1 G2 : List Sl} {t : TA} {ti : TE} {E : XK} {α β : Type} [PyA α] [Py β] [PyF β] {f1 f2 : α → β} {pre1 pre2 : α → Prop} {a : α} {b : Bool} {n : Int}
theorem ev_pick2N (hi : EvX K ti G n G1) (hb : n = if b = true then 1 else 0) (ha : EvA K t G1 a G2) (hp1 : pre1 a) (hp2 : pre2 a) : EvX K (tPick2 K (spN K f1 pre1) (spN K f2 pre2) E ti t) G (if b = true then f2 a else f1 a) G2 := fun B S0 S σ H F k Q q => by
  intro g1 g2
  refine ⟨by show 2 ≤ sizeLine; decide, fun p hp => ?_⟩
  have k0 := k.new (o := .lst [.ref g1, .ref g2]) hp
  have e0 := same_new (o := .lst [.ref g1, .ref g2]) (k.free hp).1
  refine hi B S0 _ σ _ F k0 _ fun v S1 H1 e1 k1 r1 => ?_
  obtain rfl : v = .int n := r1
  have hl : H1 p = some (.lst [.ref g1, .ref g2]) := k1.sub _ _ (e1 _ _ upd_same)
  refine ⟨p, [.ref g1, .ref g2], n, if b = true then .ref g2 else .ref g1, rfl, rfl, SqL.of hl, ?_, ?_⟩
  · subst hb
    cases b with
    | true => exact atI_nat (j := 1) rfl
    | false => exact atI_nat (j := 0) rfl
  · cases b with
    | false =>
      refine .inl ⟨rfl, ha B S0 S1 σ H1 F k1 _ fun vs S2 H2 e2 k2 r2 => ⟨S2, a, k2.sub, r2, hp1, fun v S3 H3 g r3 => ?_⟩⟩
      exact q v S3 H3 (((e0.trans e1).trans e2).trans g.s) (k2.grow g) (PyF.un r3)
    | true =>
      refine .inr ⟨rfl, ha B S0 S1 σ H1 F k1 _ fun vs S2 H2 e2 k2 r2 => ⟨S2, a, k2.sub, r2, hp2, fun v S3 H3 g r3 => ?_⟩⟩
      exact q v S3 H3 (((e0.trans e1).trans e2).trans g.s) (k2.grow g) (PyF.un r3)
end
end GL
namespace L50
open PySem PySem.Spec PyProof.Rows L2 GL
def topS (i : Nat) : Stmt := PySem.Challenge.pw_warmove_k50_whole_fetched_while_it_runs.main.body.getD i (.Pass ⟨0, 0, 0, 0⟩)
abbrev s__wall : Stmt := topS 0
abbrev s_row_at : Stmt := topS 6
abbrev s_reads_of : Stmt := topS 7
abbrev s_writes_of : Stmt := topS 8
abbrev s_with_number : Stmt := topS 9
abbrev s_row_done : Stmt := topS 10
abbrev s_tick : Stmt := topS 11
abbrev s_lacking : Stmt := topS 16
abbrev s_next_of : Stmt := topS 17
abbrev s_gone_by : Stmt := topS 18
abbrev s_fetched : Stmt := topS 19
abbrev s_asked_for : Stmt := topS 20
abbrev s_least_lost : Stmt := topS 21
abbrev s_gone : Stmt := topS 23
abbrev s_run : Stmt := topS 24
abbrev s_touches : Stmt := topS 25
abbrev s__law_pen : Stmt := topS 27
abbrev s__law_take : Stmt := topS 28
abbrev s__law_row : Stmt := topS 29
abbrev s__law_program : Stmt := topS 30
abbrev s__law_sheets : Stmt := topS 31
abbrev s__law_stand : Stmt := topS 32
abbrev s__law_order : Stmt := topS 33
abbrev s__law_brought : Stmt := topS 34
abbrev s__law_gone : Stmt := topS 35
abbrev s__law_early : Stmt := topS 36
abbrev s__law_right : Stmt := topS 37
abbrev s_law : Stmt := topS 38
abbrev s_Carried___init__ : Stmt := inClass (topS 14) 0
abbrev s_Carried_need_going : Stmt := inClass (topS 14) 4
abbrev s_Carried_need_still : Stmt := inClass (topS 14) 5
abbrev s_Carried_left : Stmt := inClass (topS 14) 7
abbrev s_Carried_goes_on : Stmt := inClass (topS 14) 9
abbrev s_Carried_tick : Stmt := inClass (topS 14) 1
abbrev s_Carried_begin : Stmt := inClass (topS 14) 3
abbrev s_Carried_copy : Stmt := inClass (topS 14) 6
abbrev s_Carried_stop : Stmt := inClass (topS 14) 8
abbrev s_Carried_early : Stmt := inClass (topS 14) 11
abbrev s_Carried_now : Stmt := inClass (topS 14) 14
abbrev s_Carried_ticks : Stmt := inClass (topS 14) 17
abbrev s_Carried_bring : Stmt := inClass (topS 14) 12
structure Tx (K : Fg) (mg : Str → Option Value) (C : Addr) (Y : XC → Addr) : Prop where
  cl : Cls K C
  na : ∀ k ∈ carK, NoAttr K C k
  mk0 : ∃ (f : Addr) (fd : FuncData), Mk K C f ∧ Fun K "__init__" "Carried.__init__" s_Carried___init__ f fd ∧ Binds K fd ["self", "program", "stand", "houses"] [] ∧ mg "Carried" = some (.ref C)
  m_Carried_need_going : MDef K C "need_going" "Carried.need_going" s_Carried_need_going ["self"]
  m_Carried_need_still : MDef K C "need_still" "Carried.need_still" s_Carried_need_still ["self"]
  m_Carried_left : MDef K C "left" "Carried.left" s_Carried_left ["self"]
  m_Carried_goes_on : MDef K C "goes_on" "Carried.goes_on" s_Carried_goes_on ["self"]
  m_Carried_tick : MDef K C "tick" "Carried.tick" s_Carried_tick ["self"]
  m_Carried_begin : MDef K C "begin" "Carried.begin" s_Carried_begin ["self", "h"]
  m_Carried_copy : MDef K C "copy" "Carried.copy" s_Carried_copy ["self", "p"]
  m_Carried_stop : MDef K C "stop" "Carried.stop" s_Carried_stop ["self"]
  m_Carried_early : MDef K C "early" "Carried.early" s_Carried_early ["self"]
  m_Carried_now : MDef K C "now" "Carried.now" s_Carried_now ["self"]
  m_Carried_ticks : MDef K C "ticks" "Carried.ticks" s_Carried_ticks ["self"]
  m_Carried_bring : MDef K C "bring" "Carried.bring" s_Carried_bring ["self", "p"]
  al_tick_ticks : mg "tick_ticks" = mg "tick"
  d_row_at : Def K mg "row_at" s_row_at ["program", "stand"]
  d_reads_of : Def K mg "reads_of" s_reads_of ["row"]
  d_writes_of : Def K mg "writes_of" s_writes_of ["row"]
  d_with_number : Def K mg "with_number" s_with_number ["sheets", "sheet", "number"]
  d_row_done : Def K mg "row_done" s_row_done ["program", "stand", "row", "letters"]
  d_tick : Def K mg "tick" s_tick ["program", "stand", "letters"]
  d_lacking : Def K mg "lacking" s_lacking ["reads", "here"]
  d_next_of : Def K mg "next_of" s_next_of ["order", "here"]
  d_gone_by : Def K mg "gone_by" s_gone_by ["some", "order", "asks"]
  d_fetched : Def K mg "fetched" s_fetched ["n", "touches", "order"]
  d_asked_for : Def K mg "asked_for" s_asked_for ["n", "touches", "order"]
  d_least_lost : Def K mg "least_lost" s_least_lost ["n", "touches"]
  d_gone : Def K mg "gone" s_gone ["program", "stand", "letters", "many"]
  d_run : Def K mg "run" s_run ["program", "stand", "letters", "many"]
  d_touches : Def K mg "touches" s_touches ["program", "stand", "letters", "many"]
  d__law_pen : Def K mg "_law_pen" s__law_pen ["script"]
  d__law_take : Def K mg "_law_take" s__law_take ["pen", "many"]
  d__law_row : Def K mg "_law_row" s__law_row ["pen", "n", "w", "many", "takes"]
  d__law_program : Def K mg "_law_program" s__law_program ["pen", "takes"]
  d__law_sheets : Def K mg "_law_sheets" s__law_sheets ["pen", "program"]
  d__law_stand : Def K mg "_law_stand" s__law_stand ["pen", "program"]
  d__law_order : Def K mg "_law_order" s__law_order ["pen", "n"]
  d__law_brought : Def K mg "_law_brought" s__law_brought ["carried", "order"]
  d__law_gone : Def K mg "_law_gone" s__law_gone ["carried", "order", "asks", "many"]
  d__law_early : Def K mg "_law_early" s__law_early ["program", "stand", "ahead"]
  d__law_right : Def K mg "_law_right" s__law_right ["program", "stand", "ahead", "order"]
  d_law : Def K mg "law" s_law ["script"]
  n_enumerate : mg "enumerate" = none
  n_int : mg "int" = none
  n_len : mg "len" = none
  n_list : mg "list" = none
  n_range : mg "range" = none
  n_set : mg "set" = none
  n_sorted : mg "sorted" = none
  n_tuple : mg "tuple" = none
  x_noStep : XCls K mg "NoStep" (Y .noStep)
  t_noStep : XTst K mg "NoStep" (Y .noStep)
  r_noStep_noStep : PySem.W.subIn K (.ref (Y .noStep)) (.ref (Y .noStep)) = some true
end L50
namespace L50
open PySem PySem.Spec PyProof.Rows L2 GL
theorem sc_row_at : FnScope ["program", "stand", "rows"] ["program", "stand"] (defScope s_row_at) := ⟨rfl, rfl, rfl, by decide +kernel, rfl, by decide +kernel, by decide +kernel⟩
section
variable {P : Program} {w : World} {K : Fg} {mg : Str → Option Value} {base : Heap}
set_option maxHeartbeats 4000000 in
theorem ok_row_at {C : Addr} {Y : XC → Addr} (T : Tx K mg C Y)  : Cal P w K mg base 1 "row_at" ["program", "stand"] (spF K (fun a : (T3 Int Int (Tp WRow)) × (Int × (Tp Int)) × Unit => rowAtM a.1 a.2.1) (fun a => ProgOk a.1 ∧ StandOk a.1 a.2.1)) := by
  have nd := sc_row_at.nd
  refine def_spF (k := 0) T.d_row_at sc_row_at rfl fun fa cdv A outer s H E hr => ?_
  refine ⟨_, pss_cons (ps_set (i := 2) nd rfl (.inl rfl) (pe_ix (r := rIxT K) ix_tup (pv 0) pe_int (fun _ _ => rfl)))
      (pss_cons (ps_if (PW.pt (pw_or (pt_cmpR op_eq (pe_ix (r := rIxT K) ix_tup (pv 1) pe_int (fun _ _ => rfl)) (pe_callB call_lenG (by rfl) T.n_len (by decide +kernel) (pa_cons (pv 2) pa_nil)) (nomark _)) (pw_or1 (pt_cmpR (op_eqD hr.units) (pe_ix (r := rIxT K) ix_tup (pv 2) (pe_ix (r := rIxT K) ix_tup (pv 1) pe_int (fun _ _ => rfl)) (fun _ _ => rfl)) (pe_tup (pa_cons (pe_str) pa_nil)) (nomark _))))) (pss_cons (ps_ret (pe_non))
      (pss_nil)) (pss_nil))
      (pss_cons (ps_ret (pe_ix (r := rIxT K) ix_tup (pv 2) (pe_ix (r := rIxT K) ix_tup (pv 1) pe_int (fun _ _ => rfl)) (fun _ _ => rfl)))
      (pss_nil))), ?_⟩
  rintro ⟨program, stand, _⟩ hpre B S0 Q hret
  show At _ _ _ _ [.im program, .im stand, .no]
  obtain ⟨gk, sk⟩ := hpre
  dsimp only at gk sk
  have hs0 := sk.a0
  have hs1 := sk.a1
  refine qg_set 2 (ev_3c (ev_var (i := 0) rfl)) rfl fun rows h_rows => ?_
  refine q_if (et_or (et_test (ev_eq (ev_fst (ev_var (i := 1) rfl)) (ev_lenT (ev_var (i := 2) rfl)))) (fun hc => et_test (ev_rowEnd (ev_ixT (ev_var (i := 2) rfl) (ev_fst (ev_var (i := 1) rfl)) (by rw [h_rows] at hc ⊢; have h9 := of_decide_eq_false hc; exact ⟨hs0, by omega⟩)) (ev_mkrow0 (.fin) rfl)))) (fun hb0 => ?_) (fun hb0 => ?_)
  ·
    exact q_ret (ev_none (α := WRow)) (hret _ _ (by unfold rowAtM; dsimp only; rw [h_rows] at hb0; exact (if_pos hb0).symm))
  ·
    refine q_next ?_
    exact q_ret (EvX.some (ev_ixT (ev_var (i := 2) rfl) (ev_fst (ev_var (i := 1) rfl)) (by rw [h_rows] at hb0 ⊢; have h9 := of_decide_eq_false (Bool.or_eq_false_iff.mp hb0).1; exact ⟨hs0, by omega⟩))) (hret _ _ (by unfold rowAtM; dsimp only; rw [h_rows] at hb0 ⊢; exact (if_neg (by rw [hb0]; decide)).symm))
end
theorem sc_reads_of : FnScope ["row"] ["row"] (defScope s_reads_of) := ⟨rfl, rfl, rfl, by decide +kernel, rfl, by decide +kernel, by decide +kernel⟩
section
variable {P : Program} {w : World} {K : Fg} {mg : Str → Option Value} {base : Heap}
set_option maxHeartbeats 4000000 in
theorem ok_reads_of {C : Addr} {Y : XC → Addr} (T : Tx K mg C Y)  : Cal P w K mg base 1 "reads_of" ["row"] (spF K (fun a : WRow × Unit => readsM a.1) (fun a => a.1 ≠ WRow.fin)) := by
  have nd := sc_reads_of.nd
  refine def_spF (k := 0) T.d_reads_of sc_reads_of rfl fun fa cdv A outer s H E hr => ?_
  refine ⟨_, pss_cons (ps_if (pt_cmpR op_eq (pe_ix (r := rIxT K) ix_tup (pv 0) pe_int (fun _ _ => rfl)) (pe_str) (nomark _)) (pss_cons (ps_ret (pe_callTy call_tupG (by rfl) T.n_tuple (by decide +kernel) (pa_cons (pe_sortSetT rfl (by rfl) T.n_sorted (by rfl) T.n_set (pe_slice sl_tupA (pv 0) (po_some pe_int) po_none)) pa_nil)))
      (pss_nil)) (pss_nil))
      (pss_cons (ps_if (pt_cmpR (r := rIn K false) op_in_seq (pe_ix (r := rIxT K) ix_tup (pv 0) pe_int (fun _ _ => rfl)) (pe_tup (pa_cons (pe_str) (pa_cons (pe_str) pa_nil))) (by rfl)) (pss_cons (ps_ret (pe_tup (pa_cons (pe_ix (r := rIxT K) ix_tup (pv 0) pe_int (fun _ _ => rfl)) pa_nil)))
      (pss_nil)) (pss_nil))
      (pss_cons (ps_ret (pe_tup (pa_nil)))
      (pss_nil))), ?_⟩
  rintro ⟨row, _⟩ hpre B S0 Q hret
  show At _ _ _ _ [.im row]
  have hne := hpre
  dsimp only at hne
  refine q_if (et_test (ev_eq (ev_row0 (ev_var (i := 0) rfl)) (ev_str))) (fun hb0 => ?_) (fun hb0 => ?_)
  ·
    exact q_ret (ev_tup (EvL.c (ev_sortSetT (ev_rowTl (ev_var (i := 0) rfl)) (by cases row <;> (show _ < 64; simp [WRow.nums]))))) (hret _ _ (by dsimp only; rw [isAdd_w] at hb0; cases row <;> first | rfl | exact absurd hb0 Bool.false_ne_true))
  ·
    refine q_next ?_
    refine q_if (et_test (ev_inTs (ev_row0 (ev_var (i := 0) rfl)) (ev_tp (els_cons (ev_str) (els_cons (ev_str) (els_nil))) (by simp)))) (fun hb1 => ?_) (fun hb1 => ?_)
    ·
      exact q_ret (ev_tp (els_cons (ev_row1 (ev_var (i := 0) rfl) (by rw [in_js] at hb1; cases row <;> first | exact absurd hb1 Bool.false_ne_true | (show (0 : Nat) < _; simp [WRow.nums]))) (els_nil)) (by simp)) (hret _ _ (by dsimp only; rw [in_js] at hb1; cases row <;> first | rfl | exact absurd hb1 Bool.false_ne_true))
    ·
      refine q_next ?_
      exact q_ret (ev_tp (els_nil (α := Int)) (by simp)) (hret _ _ (by dsimp only; rw [isAdd_w] at hb0; rw [in_js] at hb1; cases row <;> first | rfl | exact absurd hb0.symm Bool.false_ne_true | exact absurd hb1.symm Bool.false_ne_true))
end
theorem sc_writes_of : FnScope ["row"] ["row"] (defScope s_writes_of) := ⟨rfl, rfl, rfl, by decide +kernel, rfl, by decide +kernel, by decide +kernel⟩
section
variable {P : Program} {w : World} {K : Fg} {mg : Str → Option Value} {base : Heap}
set_option maxHeartbeats 4000000 in
theorem ok_writes_of {C : Addr} {Y : XC → Addr} (T : Tx K mg C Y)  : Cal P w K mg base 1 "writes_of" ["row"] (spF K (fun a : WRow × Unit => writesM a.1) (fun a => True)) := by
  have nd := sc_writes_of.nd
  refine def_spF (k := 0) T.d_writes_of sc_writes_of rfl fun fa cdv A outer s H E hr => ?_
  refine ⟨_, pss_cons (ps_if (pt_cmpR (r := rIn K false) op_in_seq (pe_ix (r := rIxT K) ix_tup (pv 0) pe_int (fun _ _ => rfl)) (pe_tup (pa_cons (pe_str) (pa_cons (pe_str) (pa_cons (pe_str) pa_nil)))) (by rfl)) (pss_cons (ps_ret (pe_tup (pa_cons (pe_ix (r := rIxT K) ix_tup (pv 0) pe_int (fun _ _ => rfl)) pa_nil)))
      (pss_nil)) (pss_nil))
      (pss_cons (ps_ret (pe_tup (pa_nil)))
      (pss_nil)), ?_⟩
  rintro ⟨row, _⟩ hpre B S0 Q hret
  show At _ _ _ _ [.im row]
  refine q_if (et_test (ev_inTs (ev_row0 (ev_var (i := 0) rfl)) (ev_tp (els_cons (ev_str) (els_cons (ev_str) (els_cons (ev_str) (els_nil)))) (by simp)))) (fun hb0 => ?_) (fun hb0 => ?_)
  ·
    exact q_ret (ev_tp (els_cons (ev_row1 (ev_var (i := 0) rfl) (by rw [in_sat] at hb0; cases row <;> first | exact absurd hb0 Bool.false_ne_true | (show (0 : Nat) < _; simp [WRow.nums]))) (els_nil)) (by simp)) (hret _ _ (by dsimp only; rw [in_sat] at hb0; cases row <;> first | rfl | exact absurd hb0 Bool.false_ne_true))
  ·
    refine q_next ?_
    exact q_ret (ev_tp (els_nil (α := Int)) (by simp)) (hret _ _ (by dsimp only; rw [in_sat] at hb0; cases row <;> first | rfl | exact absurd hb0.symm Bool.false_ne_true))
end
theorem sc_with_number : FnScope ["sheets", "sheet", "number"] ["sheets", "sheet", "number"] (defScope s_with_number) := ⟨rfl, rfl, rfl, by decide +kernel, rfl, by decide +kernel, by decide +kernel⟩
section
variable {P : Program} {w : World} {K : Fg} {mg : Str → Option Value} {base : Heap}
set_option maxHeartbeats 4000000 in
theorem ok_with_number {C : Addr} {Y : XC → Addr} (T : Tx K mg C Y)  : Cal P w K mg base 1 "with_number" ["sheets", "sheet", "number"] (spF K (fun a : (Tp Int) × Int × Int × Unit => withM a.1 a.2.1 a.2.2.1) (fun a => a.1.l.length ≤ 1000)) := by
  have nd := sc_with_number.nd
  refine def_spF (k := 0) T.d_with_number sc_with_number rfl fun fa cdv A outer s H E hr => ?_
  refine ⟨_, pss_cons (ps_ret (pe_op op_catA (pe_op op_catA (pe_slice sl_tupA (pv 0) po_none (po_some (pv 1))) (pe_tup (pa_cons (pv 2) pa_nil))) (pe_slice sl_tupA (pv 0) (po_some (pe_op op_add (pv 1) (pe_int))) po_none)))
      (pss_nil), ?_⟩
  rintro ⟨sheets, sheet, number, _⟩ hpre B S0 Q hret
  show At _ _ _ _ [.im sheets, .im sheet, .im number]
  have l0 := hpre
  dsimp only at l0
  exact q_ret (ev_catT (ev_catT (ev_slT (ev_var (i := 0) rfl) eo_none (eo_some (ev_var (i := 1) rfl))) (ev_tp (els_cons (ev_var (i := 2) rfl) (els_nil)) (by simp)) (by exact le_line (by have q1 := pen_cut l0 none (some sheet); have q2 := pen_cut l0 (some (sheet + 1)) none; simp only [List.length_append, List.length_singleton]; omega))) (ev_slT (ev_var (i := 0) rfl) (eo_some (ev_i0 (ev_var (i := 1) rfl) (ev_int))) eo_none) (by exact le_line (by have q1 := pen_cut l0 none (some sheet); have q2 := pen_cut l0 (some (sheet + 1)) none; simp only [List.length_append, List.length_singleton]; omega))) (hret _ _ (by subst_vars; rfl))
end
theorem sc_row_done : FnScope ["program", "stand", "row", "letters", "at", "sheets", "sheet", "word", "number", "goal"] ["program", "stand", "row", "letters"] (defScope s_row_done) := ⟨rfl, rfl, rfl, by decide +kernel, rfl, by decide +kernel, by decide +kernel⟩
section
variable {P : Program} {w : World} {K : Fg} {mg : Str → Option Value} {base : Heap}
set_option maxHeartbeats 4000000 in
theorem ok_row_done {C : Addr} {Y : XC → Addr} (T : Tx K mg C Y) (c_reads_of : Cal P w K mg base 1 "reads_of" ["row"] (spF K (fun a : WRow × Unit => readsM a.1) (fun a => a.1 ≠ WRow.fin))) (c_with_number : Cal P w K mg base 1 "with_number" ["sheets", "sheet", "number"] (spF K (fun a : (Tp Int) × Int × Int × Unit => withM a.1 a.2.1 a.2.2.1) (fun a => a.1.l.length ≤ 1000))) (c_writes_of : Cal P w K mg base 1 "writes_of" ["row"] (spF K (fun a : WRow × Unit => writesM a.1) (fun a => True))) : Cal P w K mg base 2 "row_done" ["program", "stand", "row", "letters"] (spF K (fun a : (T3 Int Int (Tp WRow)) × (Int × (Tp Int)) × WRow × (List Int) × Unit => doneM a.1 a.2.1 a.2.2.1 a.2.2.2.1) (fun a => ProgOk a.1 ∧ StandOk a.1 a.2.1 ∧ RowV a.1.a a.1.b a.1.c.l.length a.2.2.1 ∧ a.2.2.1 ≠ WRow.fin ∧ (a.2.2.1.isTake = true → a.2.2.2.1 ≠ []))) := by
  have nd := sc_row_done.nd
  refine def_spF (k := 1) T.d_row_done sc_row_done rfl fun fa cdv A outer s H E hr => ?_
  refine ⟨_, pss_cons (ps_asg (pv 1) (pg_tup rfl (pgs_cons (pg_name (i := 4) nd rfl (.inl rfl)) (pgs_cons (pg_name (i := 5) nd rfl (.inl rfl)) (pgs_nil)))))
      (pss_cons (ps_set (i := 6) nd rfl (.inl rfl) (pe_ix (r := rIxT K) ix_tup (pv 2) pe_int (fun _ _ => rfl)))
      (pss_cons (ps_par3 (i := 7) (j := 8) (l := 9) (by rfl) nd rfl rfl rfl (by decide) (by decide) (by decide) rfl rfl rfl (pa_cons (pe_str) (pa_cons (pe_non) (pa_cons (pe_op op_add (pv 4) (pe_int)) pa_nil))) (by rfl))
      (Evl.pss_cut (ps_if (pt_cmpR op_eq (pe_ix (r := rIxT K) ix_tup (pv 2) pe_int (fun _ _ => rfl)) (pe_str) (nomark _)) (pss_cons (ps_set (i := 5) nd rfl (.inl rfl) (pe_cal c_with_number hr (by decide) (by rfl) (pa_cons (pv 5) (pa_cons (pv 6) (pa_cons (pe_ix (r := rIxT K) ix_tup (pv 2) pe_int (fun _ _ => rfl)) pa_nil)))))
      (pss_nil)) (Evl.pss_cut (ps_if (pt_cmpR op_eq (pe_ix (r := rIxT K) ix_tup (pv 2) pe_int (fun _ _ => rfl)) (pe_str) (nomark _)) (pss_cons (ps_set (i := 5) nd rfl (.inl rfl) (pe_cal c_with_number hr (by decide) (by rfl) (pa_cons (pv 5) (pa_cons (pv 6) (pa_cons (pe_op op_mod (pe_op op_add (pe_ix (r := rIxT K) ix_tup (pv 5) (pv 6) (fun _ _ => rfl)) (pe_ix (r := rIxT K) ix_tup (pv 5) (pe_ix (r := rIxT K) ix_tup (pv 2) pe_int (fun _ _ => rfl)) (fun _ _ => rfl))) (pe_ix (r := rIxT K) ix_tup (pv 0) pe_int (fun _ _ => rfl))) pa_nil)))))
      (pss_nil)) (Evl.pss_cut (ps_if (pt_cmpR op_eq (pe_ix (r := rIxT K) ix_tup (pv 2) pe_int (fun _ _ => rfl)) (pe_str) (nomark _)) (pss_cons (ps_set (i := 9) nd rfl (.inl rfl) (pe_ifExp (pt_cmpR op_eq (pe_ix (r := rIxT K) ix_tup (pv 5) (pv 6) (fun _ _ => rfl)) (pe_int) (nomark _)) (pe_ix (r := rIxT K) ix_tup (pv 2) pe_int (fun _ _ => rfl)) (pe_op op_add (pv 4) (pe_int))))
      (pss_nil)) (Evl.pss_cut (ps_if (pt_cmpR op_eq (pe_ix (r := rIxT K) ix_tup (pv 2) pe_int (fun _ _ => rfl)) (pe_str) (nomark _)) (pss_cons (ps_par (i := 7) (j := 8) (by rfl) nd rfl rfl (by decide) rfl rfl (pa_cons (pe_str) (pa_cons (pe_ix (r := rIxT K) ix_tup (pv 5) (pv 6) (fun _ _ => rfl)) pa_nil)) (by rfl))
      (pss_nil)) (pss_cons (ps_par (i := 7) (j := 8) (by rfl) nd rfl rfl (by decide) rfl rfl (pa_cons (pe_str) (pa_cons (pe_ix (r := rIxL K) ix_list (pv 3) (pe_int) (fun _ _ => rfl)) pa_nil)) (by rfl))
      (pss_cons (ps_set (i := 5) nd rfl (.inl rfl) (pe_cal c_with_number hr (by decide) (by rfl) (pa_cons (pv 5) (pa_cons (pv 6) (pa_cons (pv 8) pa_nil)))))
      (pss_nil))))
      (pss_nil)))
      (pss_nil)))
      (pss_nil)))
      (pss_cons (ps_ret (pe_tup (pa_cons (pe_tup (pa_cons (pv 9) (pa_cons (pv 5) pa_nil))) (pa_cons (pv 7) (pa_cons (pv 8) (pa_cons (pe_cal c_reads_of hr (by decide) (by rfl) (pa_cons (pv 2) pa_nil)) (pa_cons (pe_cal c_writes_of hr (by decide) (by rfl) (pa_cons (pv 2) pa_nil)) pa_nil)))))))
      (pss_nil))))), ?_⟩
  rintro ⟨program, stand, row, letters, _⟩ hpre B S0 Q hret
  show At _ _ _ _ [.im program, .im stand, .im row, .im letters, .no, .no, .no, .no, .no, .no]
  obtain ⟨gk, sk, rv, hne, htk⟩ := hpre
  dsimp only at gk sk rv hne htk
  have hsl := sk.len
  have hg0 := gk.n0
  have hg1 := gk.n1
  have hw0 := gk.w0
  refine qg_pair 4 5 (ev_var (i := 1) rfl) rfl rfl fun at_ sheets h_at_ h_sheets => ?_
  refine qg_set 6 (ev_row1 (ev_var (i := 2) rfl) (by exact nl1 hne)) rfl fun sheet h_sheet => ?_
  refine q_par3 (ev_str) (ev_none (α := Int)) (ev_i0 (ev_var (i := 4) rfl) (ev_int)) rfl rfl rfl fun word number goal h_word h_number h_goal => ?_
  show At _ _ _ _ [.im program, .im stand, .im row, .im letters, .im at_, .im sheets, .im sheet, .im word, .im number, .im goal]
  refine q_cut1 [.im program, .im stand, .im row, .im letters, .im at_, .im (dSh program.b stand.2 letters row), .im sheet, .im (dWo row), .im (dNu stand.2 letters row), .im (dGo stand.1 stand.2 row)] ?_ ?_
  · refine q_ifc (et_test (ev_eq (ev_row0 (ev_var (i := 2) rfl)) (ev_str))) (fun hb0 => ?_) (fun hb0 => ?_)
    ·
      refine qg_set 5 (ev_call (ea_cons (ev_var (i := 5) rfl) (ea_cons (ev_var (i := 6) rfl) (ea_cons (ev_row2 (ev_var (i := 2) rfl) (by rw [isSet_w] at hb0; exact nl2 (.inl hb0))) (ea_nil)))) (by show sheets.l.length ≤ 1000; rw [h_sheets]; omega)) rfl fun sheets1 h_sheets1 => ?_
      refine q_next ?_
      exact at_mid (.k (.k (.k (.k (.k (.k (.k (.k (.k (.k .n)))))))))) (by subst_vars; rw [isSet_w] at hb0; cases row <;> first | rfl | exact absurd hb0 Bool.false_ne_true)
    ·
      refine q_cut1 [.im program, .im stand, .im row, .im letters, .im at_, .im (dSh program.b stand.2 letters row), .im sheet, .im (dWo row), .im (dNu stand.2 letters row), .im (dGo stand.1 stand.2 row)] ?_ ?_
      · refine q_ifc (et_test (ev_eq (ev_row0 (ev_var (i := 2) rfl)) (ev_str))) (fun hb1 => ?_) (fun hb1 => ?_)
        ·
          refine qg_set 5 (ev_call (ea_cons (ev_var (i := 5) rfl) (ea_cons (ev_var (i := 6) rfl) (ea_cons (ev_iC (ev_i0 (ev_ixT (ev_var (i := 5) rfl) (ev_var (i := 6) rfl) (by rw [h_sheet, h_sheets]; have := rv1 rv hne; omega)) (ev_ixT (ev_var (i := 5) rfl) (ev_row2 (ev_var (i := 2) rfl) (by rw [isAdd_w] at hb1; exact nl2 (.inr (.inl hb1)))) (by rw [h_sheets]; rw [isAdd_w] at hb1; have := rv2 rv hb1; omega))) (ev_3b (ev_var (i := 0) rfl)) (by show (0 : Int) < program.b; omega)) (ea_nil)))) (by show sheets.l.length ≤ 1000; rw [h_sheets]; omega)) rfl fun sheets2 h_sheets2 => ?_
          refine q_next ?_
          exact at_mid (.k (.k (.k (.k (.k (.k (.k (.k (.k (.k .n)))))))))) (by subst_vars; rw [isAdd_w] at hb1; cases row <;> first | rfl | exact absurd hb1 Bool.false_ne_true)
        ·
          refine q_cut1 [.im program, .im stand, .im row, .im letters, .im at_, .im (dSh program.b stand.2 letters row), .im sheet, .im (dWo row), .im (dNu stand.2 letters row), .im (dGo stand.1 stand.2 row)] ?_ ?_
          · refine q_ifc (et_test (ev_eq (ev_row0 (ev_var (i := 2) rfl)) (ev_str))) (fun hb2 => ?_) (fun hb2 => ?_)
            ·
              refine qg_set 9 (ev_if (et_test (ev_eq (ev_ixT (ev_var (i := 5) rfl) (ev_var (i := 6) rfl) (by rw [h_sheet, h_sheets]; have := rv1 rv hne; omega)) (ev_int))) (fun hc => ev_row2 (ev_var (i := 2) rfl) (by rw [isJump_w] at hb2; exact nl2 (.inr (.inr hb2)))) (fun hc => ev_i0 (ev_var (i := 4) rfl) (ev_int))) rfl fun goal1 h_goal1 => ?_
              refine q_next ?_
              exact at_mid (.k (.k (.k (.k (.k (.k (.k (.k (.k (.k .n)))))))))) (by subst_vars; rw [isJump_w] at hb2; cases row <;> first | rfl | exact absurd hb2 Bool.false_ne_true)
            ·
              show At _ _ _ _ [.im program, .im stand, .im row, .im letters, .im at_, .im sheets, .im sheet, .im word, .im number, .im goal]
              refine q_cut1 [.im program, .im stand, .im row, .im letters, .im at_, .im (dSh program.b stand.2 letters row), .im sheet, .im (dWo row), .im (dNu stand.2 letters row), .im goal] ?_ ?_
              · refine q_ifc (et_test (ev_eq (ev_row0 (ev_var (i := 2) rfl)) (ev_str))) (fun hb3 => ?_) (fun hb3 => ?_)
                ·
                  refine q_par (ev_str) (EvX.some (ev_ixT (ev_var (i := 5) rfl) (ev_var (i := 6) rfl) (by rw [h_sheet, h_sheets]; have := rv1 rv hne; omega))) rfl rfl fun word1 number1 h_word1 h_number1 => ?_
                  refine q_next ?_
                  exact at_mid (.k (.k (.k (.k (.k (.k (.k (.k (.k (.k .n)))))))))) (by subst_vars; rw [isSay_w] at hb3; cases row <;> first | rfl | exact absurd hb3 Bool.false_ne_true)
                ·
                  refine q_par (ev_str) (EvX.some (ev_ix (ev_var (i := 3) rfl) (ev_int) (by rw [isSet_w] at hb0; rw [isAdd_w] at hb1; rw [isJump_w] at hb2; rw [isSay_w] at hb3; have := List.length_pos_iff.mpr (htk (tk_of hne hb0 hb1 hb2 hb3)); omega))) rfl rfl fun word2 number2 h_word2 h_number2 => ?_
                  refine qg_set 5 (ev_call (ea_cons (ev_var (i := 5) rfl) (ea_cons (ev_var (i := 6) rfl) (ea_cons (EvX.get (α := Int) (ev_var (i := 8) rfl) (by subst_vars; rfl)) (ea_nil)))) (by show sheets.l.length ≤ 1000; rw [h_sheets]; omega)) rfl fun sheets3 h_sheets3 => ?_
                  refine q_next ?_
                  exact at_mid (.k (.k (.k (.k (.k (.k (.k (.k (.k (.k .n)))))))))) (by subst_vars; rw [isSet_w] at hb0; rw [isAdd_w] at hb1; rw [isJump_w] at hb2; rw [isSay_w] at hb3; cases row <;> first | rfl | exact absurd hb0.symm Bool.false_ne_true | exact absurd hb1.symm Bool.false_ne_true | exact absurd hb2.symm Bool.false_ne_true | exact absurd hb3.symm Bool.false_ne_true | exact absurd rfl hne)
              refine at_gen 5 rfl fun sheets4 h_sheets4 => ?_
              refine at_gen 7 rfl fun word3 h_word3 => ?_
              refine at_gen 8 rfl fun number3 h_number3 => ?_
              refine at_gen 9 rfl fun goal2 h_goal2 => ?_
              refine q_next ?_
              exact at_mid (.k (.k (.k (.k (.k (.k (.k (.k (.k (.k .n)))))))))) (by subst_vars; rw [isJump_w] at hb2; cases row <;> first | rfl | exact absurd hb2.symm Bool.false_ne_true)
          refine at_gen 5 rfl fun sheets5 h_sheets5 => ?_
          refine at_gen 7 rfl fun word4 h_word4 => ?_
          refine at_gen 8 rfl fun number4 h_number4 => ?_
          refine at_gen 9 rfl fun goal3 h_goal3 => ?_
          refine q_next ?_
          exact at_mid (.k (.k (.k (.k (.k (.k (.k (.k (.k (.k .n)))))))))) (by subst_vars; rfl)
      refine at_gen 5 rfl fun sheets6 h_sheets6 => ?_
      refine at_gen 7 rfl fun word5 h_word5 => ?_
      refine at_gen 8 rfl fun number5 h_number5 => ?_
      refine at_gen 9 rfl fun goal4 h_goal4 => ?_
      refine q_next ?_
      exact at_mid (.k (.k (.k (.k (.k (.k (.k (.k (.k (.k .n)))))))))) (by subst_vars; rfl)
  refine at_gen 5 rfl fun sheets7 h_sheets7 => ?_
  refine at_gen 7 rfl fun word6 h_word6 => ?_
  refine at_gen 8 rfl fun number6 h_number6 => ?_
  refine at_gen 9 rfl fun goal5 h_goal5 => ?_
  show At _ _ _ _ [.im program, .im stand, .im row, .im letters, .im at_, .im sheets7, .im sheet, .im word6, .im number6, .im goal5]
  exact q_ret (ev_t5 (ev_pair (ev_var (i := 9) rfl) (ev_var (i := 5) rfl)) (ev_var (i := 7) rfl) (ev_var (i := 8) rfl) (ev_call (ea_cons (ev_var (i := 2) rfl) (ea_nil)) (by exact hne)) (ev_call (ea_cons (ev_var (i := 2) rfl) (ea_nil)) (by ((try dsimp only) <;> (repeat' (first | assumption | omega | refine And.intro ?_ ?_)) <;> first | trivial | assumption | omega | decide | simp)))) (hret _ _ (by subst_vars; rfl))
end
theorem sc_tick : FnScope ["program", "stand", "letters", "row"] ["program", "stand", "letters"] (defScope s_tick) := ⟨rfl, rfl, rfl, by decide +kernel, rfl, by decide +kernel, by decide +kernel⟩
section
variable {P : Program} {w : World} {K : Fg} {mg : Str → Option Value} {base : Heap}
set_option maxHeartbeats 4000000 in
theorem ok_tick {C : Addr} {Y : XC → Addr} (T : Tx K mg C Y) (c_row_at : Cal P w K mg base 1 "row_at" ["program", "stand"] (spF K (fun a : (T3 Int Int (Tp WRow)) × (Int × (Tp Int)) × Unit => rowAtM a.1 a.2.1) (fun a => ProgOk a.1 ∧ StandOk a.1 a.2.1))) (c_row_done : Cal P w K mg base 2 "row_done" ["program", "stand", "row", "letters"] (spF K (fun a : (T3 Int Int (Tp WRow)) × (Int × (Tp Int)) × WRow × (List Int) × Unit => doneM a.1 a.2.1 a.2.2.1 a.2.2.2.1) (fun a => ProgOk a.1 ∧ StandOk a.1 a.2.1 ∧ RowV a.1.a a.1.b a.1.c.l.length a.2.2.1 ∧ a.2.2.1 ≠ WRow.fin ∧ (a.2.2.1.isTake = true → a.2.2.2.1 ≠ [])))) : Cal P w K mg base 3 "tick" ["program", "stand", "letters"] (spF K (fun a : (T3 Int Int (Tp WRow)) × (Int × (Tp Int)) × (List Int) × Unit => tickM a.1 a.2.1 a.2.2.1) (fun a => ProgOk a.1 ∧ StandOk a.1 a.2.1 ∧ a.2.2.1.length ≤ 100000)) := by
  have nd := sc_tick.nd
  refine def_spF (k := 2) T.d_tick sc_tick rfl fun fa cdv A outer s H E hr => ?_
  refine ⟨_, pss_cons (ps_set (i := 3) nd rfl (.inl rfl) (pe_cal c_row_at hr (by decide) (by rfl) (pa_cons (pv 0) (pa_cons (pv 1) pa_nil))))
      (pss_cons (ps_if (pt_cmp (pc_isN (pv 3))) (pss_cons (ps_ret (pe_tup (pa_cons (pv 1) (pa_cons (pe_str) (pa_cons (pe_non) (pa_cons (pe_tup (pa_nil)) (pa_cons (pe_tup (pa_nil)) pa_nil)))))))
      (pss_nil)) (pss_nil))
      (pss_cons (ps_if (PW.pt (pw_and (pt_cmpR op_eq (pe_ix (r := rIxT K) ix_tup (pv 3) pe_int (fun _ _ => rfl)) (pe_str) (nomark _)) (pw_and1 (pt_cmpR op_eq (pe_callB call_lenG (by rfl) T.n_len (by decide +kernel) (pa_cons (pv 2) pa_nil)) (pe_int) (nomark _))))) (pss_cons (ps_ret (pe_tup (pa_cons (pv 1) (pa_cons (pe_str) (pa_cons (pe_non) (pa_cons (pe_tup (pa_nil)) (pa_cons (pe_tup (pa_nil)) pa_nil)))))))
      (pss_nil)) (pss_nil))
      (pss_cons (ps_ret (pe_cal c_row_done hr (by decide) (by rfl) (pa_cons (pv 0) (pa_cons (pv 1) (pa_cons (pv 3) (pa_cons (pv 2) pa_nil))))))
      (pss_nil)))), ?_⟩
  rintro ⟨program, stand, letters, _⟩ hpre B S0 Q hret
  show At _ _ _ _ [.im program, .im stand, .im letters, .no]
  obtain ⟨gk, sk, ll⟩ := hpre
  dsimp only at gk sk ll
  refine qg_set 3 (ev_call (ea_cons (ev_var (i := 0) rfl) (ea_cons (ev_var (i := 1) rfl) (ea_nil))) (by exact ⟨gk, sk⟩)) rfl fun row h_row => ?_
  refine q_if (et_B (ev_isN (by exact nn_row) (ev_var (i := 3) rfl))) (fun hb0 => ?_) (fun hb0 => ?_)
  ·
    exact q_ret (ev_t5 (ev_var (i := 1) rfl) (ev_str) (ev_none (α := Int)) (ev_tp (els_nil (α := Int)) (by simp)) (ev_tp (els_nil (α := Int)) (by simp))) (hret _ _ (by unfold tickM; dsimp only; rw [← h_row, none_of hb0]))
  ·
    refine q_next ?_
    refine q_if (et_and (et_test (ev_eq (ev_row0 (EvX.get (α := WRow) (ev_var (i := 3) rfl) (by exact some_of hb0))) (ev_str))) (fun hc => et_test (ev_eq (ev_len (EvX.c (ev_var (i := 2) rfl))) (ev_int)))) (fun hb1 => ?_) (fun hb1 => ?_)
    ·
      exact q_ret (ev_t5 (ev_var (i := 1) rfl) (ev_str) (ev_none (α := Int)) (ev_tp (els_nil (α := Int)) (by simp)) (ev_tp (els_nil (α := Int)) (by simp))) (hret _ _ (by unfold tickM; dsimp only; rw [← h_row, get_of hb0]; exact (if_pos (tick_w hb1)).symm))
    ·
      refine q_next ?_
      exact q_ret (ev_call (ea_cons (ev_var (i := 0) rfl) (ea_cons (ev_var (i := 1) rfl) (ea_cons (EvX.get (α := WRow) (ev_var (i := 3) rfl) (by exact some_of hb0)) (ea_cons (ev_var (i := 2) rfl) (ea_nil))))) (by rw [h_row] at hb0 hb1 ⊢; obtain ⟨h1, h2, h3, h4⟩ := tick_row gk sk (get_of hb0); exact ⟨gk, sk, h4, h3, fun ht hl => tick_nw hb1 (by dsimp only at ht hl ⊢; rw [ht, hl]; rfl)⟩)) (hret _ _ (by unfold tickM; dsimp only; rw [← h_row, get_of hb0]; exact (if_neg (tick_nw hb1)).symm))
end
theorem sc_Carried___init__ : FnScope ["self", "program", "stand", "houses"] ["self", "program", "stand", "houses"] (defScope s_Carried___init__) := ⟨rfl, rfl, rfl, by decide +kernel, rfl, by decide +kernel, by decide +kernel⟩
theorem ok_Carried {P : Program} {w : World} {K : Fg} {mg : Str → Option Value} {base : Heap} {C : Addr} {Y : XC → Addr} (T : Tx K mg C Y) : ICal P w K mg base 1 C "Carried" ["self", "program", "stand", "houses"] (spCI K C) := by
  obtain ⟨f, fd, M, F, b, m⟩ := T.mk0
  exact ⟨f, fd, M, m, ok_carinit (k := 0) F sc_Carried___init__ rfl rfl T.cl T.na (fun cdv A outer s H E hr => pss_cons (ps_fld (pv 0) (pv 1) rfl) (pss_cons (ps_fld (pv 0) (pv 2) rfl) (pss_cons (ps_fld (pv 0) (pv 3) rfl) (pss_cons (ps_fld (pv 0) (pe_int) rfl) (pss_cons (ps_fld (pv 0) (pe_lst pa_nil) rfl) (pss_cons (ps_fld (pv 0) (pe_lst pa_nil) rfl) (pss_cons (ps_fld (pv 0) (pe_int) rfl) (pss_cons (ps_fld (pv 0) (pe_non) rfl) (pss_cons (ps_fld (pv 0) (pe_bl) rfl) (pss_cons (ps_fld (pv 0) (pe_dnewK) rfl) (pss_cons (ps_fld (pv 0) (pe_int) rfl) (pss_cons (ps_fld (pv 0) (pe_dnewK) rfl) (pss_nil))))))))))))), b⟩
theorem sc_Carried_need_going : FnScope ["self"] ["self"] (defScope s_Carried_need_going) := ⟨rfl, rfl, rfl, by decide +kernel, rfl, by decide +kernel, by decide +kernel⟩
section
variable {P : Program} {w : World} {K : Fg} {mg : Str → Option Value} {base : Heap}
set_option maxHeartbeats 4000000 in
theorem ok_Carried_need_going {C : Addr} {Y : XC → Addr} (T : Tx K mg C Y)  : MCal P w K mg base 1 C "need_going" ["self"] (spM K (fun (z : (Car C)) (a : Unit) => ((), z)) (fun z a => z.goal.isSome = true ∧ z.still = false)) := by
  have nd := sc_Carried_need_going.nd
  refine mdef_spM (k := 0) T.m_Carried_need_going sc_Carried_need_going rfl (fun _ _ _ => rfl) fun fa cdv A outer s H E hr => ?_
  refine ⟨_, pss_cons (ps_if (PW.pt (pw_or (pt_cmp (pc_isN (pe_fld (pv 0) rfl))) (pw_or1 (pt_val (pe_fld (pv 0) rfl))))) (pss_cons ps_never (pss_nil)) (pss_nil))
      (pss_nil), ?_⟩
  rintro self ⟨_⟩ hpre B S0 Q hret
  show At _ _ _ _ [.ow self]
  obtain ⟨hgo, hst⟩ := hpre
  refine q_ifF (et_or (et_B (ev_isN (by exact nn_int) (ev_goal (i := 0) rfl))) (fun hc => et_B (ev_is_still (i := 0) rfl))) ?_ ?_
  · rw [hst]; cases hg_ : self.goal with
    | none => rw [hg_] at hgo; cases hgo
    | some _ => rfl
  exact fun S_ σ_ H_ F_ k_ => hret _ () _ rfl (by rfl) S_ σ_ H_ F_ .non k_ rfl
end
theorem sc_Carried_need_still : FnScope ["self"] ["self"] (defScope s_Carried_need_still) := ⟨rfl, rfl, rfl, by decide +kernel, rfl, by decide +kernel, by decide +kernel⟩
section
variable {P : Program} {w : World} {K : Fg} {mg : Str → Option Value} {base : Heap}
set_option maxHeartbeats 4000000 in
theorem ok_Carried_need_still {C : Addr} {Y : XC → Addr} (T : Tx K mg C Y)  : MCal P w K mg base 1 C "need_still" ["self"] (spM K (fun (z : (Car C)) (a : Unit) => ((), z)) (fun z a => z.still = true)) := by
  have nd := sc_Carried_need_still.nd
  refine mdef_spM (k := 0) T.m_Carried_need_still sc_Carried_need_still rfl (fun _ _ _ => rfl) fun fa cdv A outer s H E hr => ?_
  refine ⟨_, pss_cons (ps_if (pt_not (pt_val (pe_fld (pv 0) rfl))) (pss_cons ps_never (pss_nil)) (pss_nil))
      (pss_nil), ?_⟩
  rintro self ⟨_⟩ hpre B S0 Q hret
  show At _ _ _ _ [.ow self]
  have hst := hpre
  (try dsimp only at hst)
  refine q_ifF (et_not (et_B (ev_is_still (i := 0) rfl))) ?_ ?_
  · rw [hst]; rfl
  exact fun S_ σ_ H_ F_ k_ => hret _ () _ rfl (by rfl) S_ σ_ H_ F_ .non k_ rfl
end
theorem sc_Carried_left : FnScope ["self", "sheet"] ["self"] (defScope s_Carried_left) := ⟨rfl, rfl, rfl, by decide +kernel, rfl, by decide +kernel, by decide +kernel⟩
section
variable {P : Program} {w : World} {K : Fg} {mg : Str → Option Value} {base : Heap}
set_option maxHeartbeats 4000000 in
theorem ok_Carried_left {C : Addr} {Y : XC → Addr} (T : Tx K mg C Y)  : MCal P w K mg base 1 C "left" ["self"] (spM K (fun (z : (Car C)) (a : Unit) => (lfM z, z)) (fun z a => 0 ≤ z.g.a ∧ z.g.a ≤ 1000)) := by
  have nd := sc_Carried_left.nd
  refine mdef_spM (k := 0) T.m_Carried_left sc_Carried_left rfl (fun _ _ _ => rfl) fun fa cdv A outer s H E hr => ?_
  refine ⟨_, pss_cons (ps_ret (pe_lc (own := [("sheet", 1)]) (g := gName 1) (by rfl) nd (pi_range1 (by rfl) T.n_range (pa_cons (pe_ix (r := rIxT K) ix_tup (pe_fld (pv 0) rfl) pe_int (fun _ _ => rfl)) pa_nil)) (blkOk_by (N := ["self", "sheet"]) (sc := defScope s_Carried_left) (by decide +kernel)) (fun _ _ _ _ _ => pg_name (i := 1) nd rfl (.inl rfl) (.inr rfl)) (fun _ _ _ _ _ => pts_one (pt_cmp (pc_dnotin (hu_of hr) (pv 1) (pe_fldK (K := K) rfl (pv 0) rfl)))) (fun _ _ _ _ _ => pv 1)))
      (pss_nil), ?_⟩
  rintro self ⟨_⟩ hpre B S0 Q hret
  show At _ _ _ _ [.ow self, .no]
  obtain ⟨n0, n1⟩ := hpre
  exact q_ret (EvL.ev (el_lcF _ _ (it_rng1 (ev_3a (ev_program (i := 0) rfl)) (by first | omega | (dsimp only; omega))) (by first | omega | (dsimp only; omega) | (rw [len_rng]; omega) | (rw [len_rng]; exact le_line (by omega))) rfl (fun x hm_x => ⟨_, _, tg_name rfl, (by decide), et_B (ev_ninF (i := 0) (ev_var (i := 1) rfl) rfl), fun hf_x => ev_var (i := 1) rfl⟩))) (hret _ _ _ rfl (by unfold lfM; simp))
end
theorem sc_Carried_goes_on : FnScope ["self"] ["self"] (defScope s_Carried_goes_on) := ⟨rfl, rfl, rfl, by decide +kernel, rfl, by decide +kernel, by decide +kernel⟩
section
variable {P : Program} {w : World} {K : Fg} {mg : Str → Option Value} {base : Heap}
set_option maxHeartbeats 4000000 in
theorem ok_Carried_goes_on {C : Addr} {Y : XC → Addr} (T : Tx K mg C Y)  : MCal P w K mg base 1 C "goes_on" ["self"] (spM K (fun (z : (Car C)) (a : Unit) => ((), goesC z)) (fun z a => z.goal.isSome = true)) := by
  have nd := sc_Carried_goes_on.nd
  refine mdef_spM (k := 0) T.m_Carried_goes_on sc_Carried_goes_on rfl (fun z a _ => goes_fp z) fun fa cdv A outer s H E hr => ?_
  refine ⟨_, pss_cons (ps_fld (pv 0) (pe_fld (pv 0) rfl) rfl)
      (pss_cons (ps_fld (pv 0) (pe_non) rfl)
      (pss_cons (ps_fld (pv 0) (pe_bl) rfl)
      (pss_nil))), ?_⟩
  rintro self ⟨_⟩ hpre B S0 Q hret
  show At _ _ _ _ [.ow self]
  have hgo := hpre
  (try dsimp only at hgo)
  refine q_place (i := 0) (EvX.get (α := Int) (ev_goal (i := 0) rfl) (by exact hgo)) rfl ?_
  refine at_genO 0 rfl fun self1 h_self1 => ?_
  show At _ _ _ _ [.ow self1]
  refine q_goal (i := 0) (ev_none (α := Int)) rfl ?_
  refine at_genO 0 rfl fun self2 h_self2 => ?_
  show At _ _ _ _ [.ow self2]
  refine q_is_still (i := 0) (ev_bl) rfl ?_
  refine at_genO 0 rfl fun self3 h_self3 => ?_
  show At _ _ _ _ [.ow self3]
  exact fun S_ σ_ H_ F_ k_ => hret _ () _ rfl (by rw [h_self3, h_self2, h_self1]; unfold goesC; rfl) S_ σ_ H_ F_ .non k_ rfl
end
theorem sc_Carried_tick : FnScope ["self", "row", "lacks", "word", "number", "reads", "writes", "sheet"] ["self"] (defScope s_Carried_tick) := ⟨rfl, rfl, rfl, by decide +kernel, rfl, by decide +kernel, by decide +kernel⟩
section
variable {P : Program} {w : World} {K : Fg} {mg : Str → Option Value} {base : Heap}
set_option maxHeartbeats 4000000 in
theorem ok_Carried_tick {C : Addr} {Y : XC → Addr} (T : Tx K mg C Y) (c_reads_of : Cal P w K mg base 1 "reads_of" ["row"] (spF K (fun a : WRow × Unit => readsM a.1) (fun a => a.1 ≠ WRow.fin))) (c_row_at : Cal P w K mg base 1 "row_at" ["program", "stand"] (spF K (fun a : (T3 Int Int (Tp WRow)) × (Int × (Tp Int)) × Unit => rowAtM a.1 a.2.1) (fun a => ProgOk a.1 ∧ StandOk a.1 a.2.1))) (c_tick_ticks : Cal P w K mg base 3 "tick_ticks" ["program", "stand", "letters"] (spF K (fun a : (T3 Int Int (Tp WRow)) × (Int × (Tp Int)) × (List Int) × Unit => tickM a.1 a.2.1 a.2.2.1) (fun a => ProgOk a.1 ∧ StandOk a.1 a.2.1 ∧ a.2.2.1.length ≤ 100000))) : MCal P w K mg base 4 C "tick" ["self"] (spM K (fun (z : (Car C)) (a : Unit) => tickC z) (fun z a => CarOk z)) := by
  have nd := sc_Carried_tick.nd
  refine mdef_spM (k := 3) T.m_Carried_tick sc_Carried_tick rfl (fun z a _ => tickC_fp z) fun fa cdv A outer s H E hr => ?_
  refine ⟨_, pss_cons (ps_if (pt_val (pe_fld (pv 0) rfl)) (pss_cons (ps_ret (pe_tup (pa_cons (pe_str) pa_nil)))
      (pss_nil)) (pss_nil))
      (pss_cons (ps_set (i := 1) nd rfl (.inl rfl) (pe_cal c_row_at hr (by decide) (by rfl) (pa_cons (pe_fld (pv 0) rfl) (pa_cons (pe_fld (pv 0) rfl) pa_nil))))
      (Evl.pss_cut (ps_if (pt_cmp (pc_notN (pv 1))) (pss_cons (ps_setLc (i := 2) (own := [("sheet", 7)]) (g := gName 7) rfl nd rfl rfl (sw_true rfl rfl rfl (by decide +kernel)) (pi_tup (pe_cal c_reads_of hr (by decide) (by rfl) (pa_cons (pv 1) pa_nil))) (blkOk_by (N := ["self", "row", "lacks", "word", "number", "reads", "writes", "sheet"]) (sc := defScope s_Carried_tick) (by decide +kernel)) (fun _ _ _ _ _ => pg_name (i := 7) nd rfl (.inl rfl) (.inr rfl)) (fun _ _ _ _ _ => pts_one (pt_cmp (pc_din (hu_of hr) (pv 7) (pe_fldK (K := K) rfl (pv 0) rfl)))) (fun _ _ _ _ _ => pv 7))
      (pss_cons (ps_if (pt_cmpR (op_neD hr.units) (pv 2) (pe_lst (pa_nil)) (nomark _)) (pss_cons (ps_ret (pe_tup (pa_cons (pe_str) (pa_cons (pe_ix (r := rIxL K) ix_list (pv 2) (pe_int) (fun _ _ => rfl)) pa_nil))))
      (pss_nil)) (pss_nil))
      (pss_nil))) (pss_nil))
      (pss_cons (ps_asg (pe_cal c_tick_ticks hr (by decide) (by rfl) (pa_cons (pe_fld (pv 0) rfl) (pa_cons (pe_fld (pv 0) rfl) (pa_cons (pe_fld (pv 0) rfl) pa_nil)))) (pg_tup rfl (pgs_cons (pg_fld (pv 0)) (pgs_cons (pg_name (i := 3) nd rfl (.inl rfl)) (pgs_cons (pg_name (i := 4) nd rfl (.inl rfl)) (pgs_cons (pg_name (i := 5) nd rfl (.inl rfl)) (pgs_cons (pg_name (i := 6) nd rfl (.inl rfl)) (pgs_nil))))))))
      (Evl.pss_cut (ps_if (pt_cmpR op_eq (pv 3) (pe_str) (nomark _)) (pss_cons (ps_expr (pe_bm PySem.F.plainAttrs_list PySem.F.slot_list_pop PySem.F.type_list_pop mt_popAt (pe_fld (pv 0) rfl) (pa_cons pe_int pa_nil)))
      (pss_nil)) (pss_nil))
      (Evl.pss_cut (ps_if (pt_cmpR op_eq (pv 3) (pe_str) (nomark _)) (pss_cons (ps_expr (pe_bm PySem.F.plainAttrs_list PySem.F.slot_list_append PySem.F.type_list_append mt_append (pe_fld (pv 0) rfl) (pa_cons (pv 4) pa_nil)))
      (pss_nil)) (pss_nil))
      (pss_cons (ps_for PassesOwn.never rfl (pi_tup (pv 6)) (pg_name (i := 7) nd rfl (.inl rfl))
      (pss_cons (ps_expr (pe_dpop2 (pe_fld (pv 0) rfl) (pv 7) pe_non ⟨rfl, rfl, rfl, rfl⟩))
      (pss_cons (ps_expr (pe_dpop2 (pe_fld (pv 0) rfl) (pv 7) pe_non ⟨rfl, rfl, rfl, rfl⟩))
      (pss_nil))))
      (pss_cons (ps_fld (pv 0) (pe_op op_add (pe_fld (pv 0) rfl) (pe_int)) rfl)
      (pss_cons (ps_ret (pe_tup (pa_cons (pv 3) (pa_cons (pv 4) pa_nil))))
      (pss_nil))))))))), ?_⟩
  rintro self ⟨_⟩ hpre B S0 Q hret
  show At _ _ _ _ [.ow self, .no, .no, .no, .no, .no, .no, .no]
  have ck := hpre
  (try dsimp only at ck)
  refine q_if (et_B (ev_is_still (i := 0) rfl)) (fun hb0 => ?_) (fun hb0 => ?_)
  ·
    exact q_ret (ev_tw1) (hret _ _ _ rfl (by unfold tickC; rw [if_pos hb0]))
  ·
    refine q_next ?_
    refine qg_set 1 (ev_call (ea_cons (ev_program (i := 0) rfl) (ea_cons (ev_stand (i := 0) rfl) (ea_nil))) (by exact ⟨ck.g, ck.s⟩)) rfl fun row h_row => ?_
    refine q_cutI (fun st_ : (Car C) => [.ow st_, .im row, .no, .no, .no, .no, .no, .no]) (fun (st : Car C) => st = self ∧ lksM self = []) ?_ (fun sI1 hI_1 => ?_)
    · refine q_ifc (et_B (ev_notN (by exact nn_row) (ev_var (i := 1) rfl))) (fun hb1 => ?_) (fun hb1 => ?_)
      ·
        refine qg_set 2 (EvL.ev (el_lcF _ _ (it_tup (ev_call (ea_cons (EvX.get (α := WRow) (ev_var (i := 1) rfl) (by exact hb1)) (ea_nil)) (by have h9 := get_os hb1; rw [h_row] at h9 ⊢; exact (tick_row ck.g ck.s h9).2.2.1))) (by exact Nat.le_trans (reads_len _) (by decide)) rfl (fun x hm_x => ⟨_, _, tg_name rfl, (by decide), et_B (ev_inB_ (i := 0) (ev_var (i := 7) rfl) rfl), fun hf_x => ev_var (i := 7) rfl⟩))) rfl fun lacks h_lacks => ?_
        have hrr : rowAtM self.g self.st = some (row.getD default) := by have h9 := get_os hb1; rw [h_row] at h9 ⊢; exact h9
        have hlq : lacks = lksM self := by rw [h_lacks, lack_some hrr]; simp
        refine q_if (et_test (ev_neD (ev_var (i := 2) rfl) (EvL.ev (el_lst (els_nil (α := Int)) (by simp))) (by decide))) (fun hb2 => ?_) (fun hb2 => ?_)
        ·
          exact q_ret (ev_tw2 (ev_str) (EvX.some (ev_ix (ev_var (i := 2) rfl) (ev_int) (by have h9 := List.length_pos_iff.mpr (by simpa using hb2 : lacks ≠ []); constructor <;> omega)))) (hret _ _ _ rfl (by exact tick_lacks hb0 hlq (by simpa using hb2)))
        ·
          refine q_next ?_
          refine q_next ?_
          exact at_mid (.k (.k (.d (.d (.d (.d (.d (.d .n)))))))) ⟨self, rfl, by exact ⟨rfl, by rw [← hlq]; simpa using hb2⟩⟩
      ·
        refine q_next ?_
        exact at_mid (.k (.k (.d (.d (.d (.d (.d (.d .n)))))))) ⟨self, rfl, by exact ⟨rfl, lks_none (by have h9 := hb1; rw [h_row] at h9; exact h9)⟩⟩
    ·
      show At _ _ _ _ [.ow sI1, .im row, .no, .no, .no, .no, .no, .no]
      obtain ⟨hI_a, hlk⟩ := hI_1
      subst hI_a
      refine q_tick5 (i := 0) (ev_callW (i := 0) rfl (by exact ⟨ck.g, ck.s, ck.wl⟩)) rfl rfl rfl rfl rfl fun word number reads writes h_word h_number h_reads h_writes => ?_
      refine at_genO 0 rfl fun self2 h_self2 => ?_
      show At _ _ _ _ [.ow self2, .im row, .no, .im word, .im number, .im reads, .im writes, .no]
      refine q_cut1 [.ow (if decide (word = Str.ofString "took") = true then ({ self2 with wait := self2.wait.drop 1 } : Car C) else self2), .im row, .no, .im word, .im number, .im reads, .im writes, .no] ?_ ?_
      · refine q_ifc (et_test (ev_eq (ev_var (i := 3) rfl) (ev_str))) (fun hb3 => ?_) (fun hb3 => ?_)
        ·
          refine q_drop (ev_popW (i := 0) rfl (by rw [h_self2]; rw [h_word] at hb3; exact took_ne2 hb3)) ?_
          refine at_genO 0 rfl fun self3 h_self3 => ?_
          show At _ _ _ _ [.ow self3, .im row, .no, .im word, .im number, .im reads, .im writes, .no]
          refine q_next ?_
          exact at_mid (.k (.k (.d (.k (.k (.k (.k (.d .n)))))))) (by rw [h_self3, if_pos hb3])
        ·
          refine q_next ?_
          exact at_mid (.k (.k (.d (.k (.k (.k (.k (.d .n)))))))) (by rw [if_neg (by rw [hb3]; decide)])
      refine at_genO 0 rfl fun self4 h_self4 => ?_
      refine q_cut1 [.ow (if decide (word = Str.ofString "said") = true then ({ self4 with said := self4.said ++ [number.getD default] } : Car C) else self4), .im row, .no, .im word, .im number, .im reads, .im writes, .no] ?_ ?_
      · refine q_ifc (et_test (ev_eq (ev_var (i := 3) rfl) (ev_str))) (fun hb4 => ?_) (fun hb4 => ?_)
        ·
          refine q_appS (i := 0) rfl (EvX.get (α := Int) (ev_var (i := 4) rfl) (by rw [h_number]; rw [h_word] at hb4; exact said_some hb4)) (by rw [h_self4, h_self2]; have := ck.sl; exact lt_line (by split <;> (dsimp only; omega))) ?_
          refine at_genO 0 rfl fun self5 h_self5 => ?_
          show At _ _ _ _ [.ow self5, .im row, .no, .im word, .im number, .im reads, .im writes, .no]
          refine q_next ?_
          exact at_mid (.k (.k (.d (.k (.k (.k (.k (.d .n)))))))) (by rw [h_self5, if_pos hb4])
        ·
          refine q_next ?_
          exact at_mid (.k (.k (.d (.k (.k (.k (.k (.d .n)))))))) (by rw [if_neg (by rw [hb4]; decide)])
      refine at_genO 0 rfl fun self6 h_self6 => ?_
      refine qg_fold (fun st_ : (Car C) => [.ow st_, .im row, .no, .im word, .im number, .im reads, .im writes, .no]) popBoth self6 (it_tup (ev_var (i := 6) rfl)) (.k (.k (.d (.k (.k (.k (.k (.d .n)))))))) (fun pre0 sheet post0 s0 ex0 hs0 Sb0 rb0 => ⟨_, _, tg_name rfl, ?_⟩) (fun s0 hs0 => ?_)
      ·
        show At _ _ _ _ [.ow s0, .im row, .no, .im word, .im number, .im reads, .im writes, .im sheet]
        refine q_popF (i := 0) rfl (ev_var (i := 7) rfl) ?_
        refine at_genO 0 rfl fun self7 h_self7 => ?_
        show At _ _ _ _ [.ow self7, .im row, .no, .im word, .im number, .im reads, .im writes, .im sheet]
        refine q_popB (i := 0) rfl (ev_var (i := 7) rfl) ?_
        refine at_genO 0 rfl fun self8 h_self8 => ?_
        show At _ _ _ _ [.ow self8, .im row, .no, .im word, .im number, .im reads, .im writes, .im sheet]
        exact q_next (at_mid (.k (.k (.d (.k (.k (.k (.k (.d .n)))))))) (by rw [h_self8, h_self7]; rfl))
      ·
        show At _ _ _ _ [.ow s0, .im row, .no, .im word, .im number, .im reads, .im writes, .no]
        refine q_done (i := 0) (ev_i0 (ev_done (i := 0) rfl) (ev_int)) rfl ?_
        refine at_genO 0 rfl fun self9 h_self9 => ?_
        show At _ _ _ _ [.ow self9, .im row, .no, .im word, .im number, .im reads, .im writes, .no]
        exact q_ret (ev_tw2 (ev_var (i := 3) rfl) (ev_var (i := 4) rfl)) (hret _ _ _ rfl (by exact tick_end hb0 hlk (by rw [h_word, h_number]) (went_eq (z2 := self2) (z4 := self4) (z6 := self6) h_self2 (by rw [h_self4, h_word]) (by rw [h_self6, h_word, h_number]) (by rw [h_self9, hs0, h_writes]))))
end
theorem sc_Carried_begin : FnScope ["self", "h"] ["self", "h"] (defScope s_Carried_begin) := ⟨rfl, rfl, rfl, by decide +kernel, rfl, by decide +kernel, by decide +kernel⟩
section
variable {P : Program} {w : World} {K : Fg} {mg : Str → Option Value} {base : Heap}
set_option maxHeartbeats 4000000 in
theorem ok_Carried_begin {C : Addr} {Y : XC → Addr} (T : Tx K mg C Y)  : MCal P w K mg base 1 C "begin" ["self", "h"] (spO K (fun (z : Car C) (a : Int × Unit) (y : Unit) (z_ : Car C) => BegR z a.1 z_) (fun z a => a.1 ≠ z.place ∧ (0 ≤ a.1 ∧ a.1 < z.houses) ∧ z.goal = none ∧ z.absent.l = [])) := by
  have nd := sc_Carried_begin.nd
  refine mdef_spO (k := 0) T.m_Carried_begin sc_Carried_begin rfl fun fa cdv A outer s H E hr => ?_
  refine ⟨_, pss_cons (ps_if (PW.pt (pw_or (pt_cmpR op_eq (pv 1) (pe_fld (pv 0) rfl) (nomark _)) (pw_or1 (pt_not (pt_chain op_le op_lt (pe_int) (pv 1) (pe_fld (pv 0) rfl)))))) (pss_cons ps_never (pss_nil)) (pss_nil))
      (pss_cons (ps_if (PW.pt (pw_or (pt_cmp (pc_notN (pe_fld (pv 0) rfl))) (pw_or1 (pt_cmpR (op_neE (Nat.lt_of_succ_lt (hu_of hr))) (pe_fld (pv 0) rfl) (pe_dnewK) (nomark _))))) (pss_cons ps_never (pss_nil)) (pss_nil))
      (pss_cons (ps_fld (pv 0) (pv 1) rfl)
      (pss_cons (ps_fld (pv 0) (pe_bl) rfl)
      (pss_cons (ps_fld (pv 0) (pe_dnewK) rfl)
      (pss_cons (ps_fld (pv 0) (pe_int) rfl)
      (pss_nil)))))), ?_⟩
  rintro self ⟨h, _⟩ hpre B S0 Q hret
  show At _ _ _ _ [.ow self, .im h]
  obtain ⟨hne, ⟨h0, h1⟩, hgo, hab⟩ := hpre
  (try dsimp only at hne h0 h1 hgo hab)
  refine q_ifF (et_or (et_test (ev_eq (ev_var (i := 1) rfl) (ev_place (i := 0) rfl))) (fun hc => et_not (et_test (ev_chain (ev_int) (ev_var (i := 1) rfl) (ev_houses (i := 0) rfl))))) ?_ ?_
  · rw [decide_eq_false hne, decide_eq_true h0, decide_eq_true h1]; rfl
  refine q_ifF (et_or (et_B (ev_notN (by exact nn_int) (ev_goal (i := 0) rfl))) (fun hc => et_test (ev_neB (i := 0) rfl))) ?_ ?_
  · rw [hgo, hab]; rfl
  refine q_goal (i := 0) (EvX.some (ev_var (i := 1) rfl)) rfl ?_
  refine at_genO 0 rfl fun self1 h_self1 => ?_
  show At _ _ _ _ [.ow self1, .im h]
  refine q_is_still (i := 0) (ev_bl) rfl ?_
  refine at_genO 0 rfl fun self2 h_self2 => ?_
  show At _ _ _ _ [.ow self2, .im h]
  refine q_newF (i := 0) rfl fun f_ => ?_
  refine at_genO 0 rfl fun self3 h_self3 => ?_
  show At _ _ _ _ [.ow self3, .im h]
  refine q_made (i := 0) (ev_int) rfl ?_
  refine at_genO 0 rfl fun self4 h_self4 => ?_
  show At _ _ _ _ [.ow self4, .im h]
  exact fun S_ σ_ H_ F_ k_ => hret _ () _ rfl (by subst_vars; rfl) (by exact ⟨_, by subst_vars; rfl⟩) S_ σ_ H_ F_ .non k_ rfl
end
theorem sc_Carried_copy : FnScope ["self", "p"] ["self", "p"] (defScope s_Carried_copy) := ⟨rfl, rfl, rfl, by decide +kernel, rfl, by decide +kernel, by decide +kernel⟩
section
variable {P : Program} {w : World} {K : Fg} {mg : Str → Option Value} {base : Heap}
set_option maxHeartbeats 4000000 in
theorem ok_Carried_copy {C : Addr} {Y : XC → Addr} (T : Tx K mg C Y) (c_Carried_need_going : MCal P w K mg base 1 C "need_going" ["self"] (spM K (fun (z : (Car C)) (a : Unit) => ((), z)) (fun z a => z.goal.isSome = true ∧ z.still = false))) : MCal P w K mg base 2 C "copy" ["self", "p"] (spM K (fun (z : (Car C)) (a : Int × Unit) => ((), copyC z a.1)) (fun z a => (z.goal.isSome = true ∧ z.still = false) ∧ z.fresh.l.length ≤ 100000)) := by
  have nd := sc_Carried_copy.nd
  refine mdef_spM (k := 1) T.m_Carried_copy sc_Carried_copy rfl (fun z a _ => copy_fp z a.1) fun fa cdv A outer s H E hr => ?_
  refine ⟨_, pss_cons (ps_expr (pe_mcal0 c_Carried_need_going T.cl hr (by decide) (pv 0)))
      (pss_cons (ps_dput (hu_of hr) (pe_fld (pv 0) rfl) (pv 1) (pe_bl) rfl)
      (pss_cons (ps_fld (pv 0) (pe_op op_add (pe_fld (pv 0) rfl) (pe_int)) rfl)
      (pss_nil))), ?_⟩
  rintro self ⟨p, _⟩ hpre B S0 Q hret
  show At _ _ _ _ [.ow self, .im p]
  obtain ⟨hgs, hfl⟩ := hpre
  (try dsimp only at hgs hfl)
  refine q_drop (ev_methM (i := 0) (by decide +kernel) rfl (ea_nil) rfl (by exact hgs)) ?_
  show At _ _ _ _ [.ow self, .im p]
  refine q_putF (i := 0) (ev_bl) rfl (ev_var (i := 1) rfl) (by exact lt_line (by omega)) ?_
  refine at_genO 0 rfl fun self1 h_self1 => ?_
  show At _ _ _ _ [.ow self1, .im p]
  refine q_made (i := 0) (ev_i0 (ev_made (i := 0) rfl) (ev_int)) rfl ?_
  refine at_genO 0 rfl fun self2 h_self2 => ?_
  show At _ _ _ _ [.ow self2, .im p]
  exact fun S_ σ_ H_ F_ k_ => hret _ () _ rfl (by rw [h_self2, h_self1]; unfold copyC; rfl) S_ σ_ H_ F_ .non k_ rfl
end
theorem sc_Carried_stop : FnScope ["self"] ["self"] (defScope s_Carried_stop) := ⟨rfl, rfl, rfl, by decide +kernel, rfl, by decide +kernel, by decide +kernel⟩
section
variable {P : Program} {w : World} {K : Fg} {mg : Str → Option Value} {base : Heap}
set_option maxHeartbeats 4000000 in
theorem ok_Carried_stop {C : Addr} {Y : XC → Addr} (T : Tx K mg C Y) (c_Carried_left : MCal P w K mg base 1 C "left" ["self"] (spM K (fun (z : (Car C)) (a : Unit) => (lfM z, z)) (fun z a => 0 ≤ z.g.a ∧ z.g.a ≤ 1000))) (c_Carried_need_going : MCal P w K mg base 1 C "need_going" ["self"] (spM K (fun (z : (Car C)) (a : Unit) => ((), z)) (fun z a => z.goal.isSome = true ∧ z.still = false))) : MCal P w K mg base 2 C "stop" ["self"] (spM K (fun (z : (Car C)) (a : Unit) => (lfM z, stillC z)) (fun z a => (z.goal.isSome = true ∧ z.still = false) ∧ 0 ≤ z.g.a ∧ z.g.a ≤ 1000)) := by
  have nd := sc_Carried_stop.nd
  refine mdef_spM (k := 1) T.m_Carried_stop sc_Carried_stop rfl (fun z a _ => still_fp z) fun fa cdv A outer s H E hr => ?_
  refine ⟨_, pss_cons (ps_expr (pe_mcal0 c_Carried_need_going T.cl hr (by decide) (pv 0)))
      (pss_cons (ps_fld (pv 0) (pe_bl) rfl)
      (pss_cons (ps_ret (pe_mcal0 c_Carried_left T.cl hr (by decide) (pv 0)))
      (pss_nil))), ?_⟩
  rintro self ⟨_⟩ hpre B S0 Q hret
  show At _ _ _ _ [.ow self]
  obtain ⟨hgs, n0, n1⟩ := hpre
  (try dsimp only at hgs n0 n1)
  refine q_drop (ev_methM (i := 0) (by decide +kernel) rfl (ea_nil) rfl (by exact hgs)) ?_
  show At _ _ _ _ [.ow self]
  refine q_is_still (i := 0) (ev_bl) rfl ?_
  refine at_genO 0 rfl fun self1 h_self1 => ?_
  show At _ _ _ _ [.ow self1]
  exact q_ret (ev_methM (i := 0) (by decide +kernel) rfl (ea_nil) rfl (by rw [h_self1]; exact ⟨n0, n1⟩)) (hret _ _ _ rfl (by rw [h_self1]; unfold stillC lfM; rfl))
end
theorem sc_Carried_early : FnScope ["self", "sheet"] ["self"] (defScope s_Carried_early) := ⟨rfl, rfl, rfl, by decide +kernel, rfl, by decide +kernel, by decide +kernel⟩
section
variable {P : Program} {w : World} {K : Fg} {mg : Str → Option Value} {base : Heap}
set_option maxHeartbeats 4000000 in
theorem ok_Carried_early {C : Addr} {Y : XC → Addr} (T : Tx K mg C Y) (c_Carried_goes_on : MCal P w K mg base 1 C "goes_on" ["self"] (spM K (fun (z : (Car C)) (a : Unit) => ((), goesC z)) (fun z a => z.goal.isSome = true))) (c_Carried_left : MCal P w K mg base 1 C "left" ["self"] (spM K (fun (z : (Car C)) (a : Unit) => (lfM z, z)) (fun z a => 0 ≤ z.g.a ∧ z.g.a ≤ 1000))) (c_Carried_need_still : MCal P w K mg base 1 C "need_still" ["self"] (spM K (fun (z : (Car C)) (a : Unit) => ((), z)) (fun z a => z.still = true))) : MCal P w K mg base 2 C "early" ["self"] (spM K (fun (z : (Car C)) (a : Unit) => (z.made, goesC (lackC z (lfM z)))) (fun z a => ((z.goal.isSome = true ∧ z.still = true) ∧ 0 ≤ z.g.a ∧ z.g.a ≤ 1000) ∧ z.absent.l.length ≤ 100000)) := by
  have nd := sc_Carried_early.nd
  refine mdef_spM (k := 1) T.m_Carried_early sc_Carried_early rfl (fun z a _ => (goes_fp _).trans (lack_fp z _)) fun fa cdv A outer s H E hr => ?_
  refine ⟨_, pss_cons (ps_expr (pe_mcal0 c_Carried_need_still T.cl hr (by decide) (pv 0)))
      (pss_cons (ps_for PassesOwn.never rfl (pi_list (pe_mcal0 c_Carried_left T.cl hr (by decide) (pv 0))) (pg_name (i := 1) nd rfl (.inl rfl))
      (pss_cons (ps_dput (hu_of hr) (pe_fld (pv 0) rfl) (pv 1) (pe_bl) rfl)
      (pss_nil)))
      (pss_cons (ps_expr (pe_mcal0 c_Carried_goes_on T.cl hr (by decide) (pv 0)))
      (pss_cons (ps_ret (pe_fld (pv 0) rfl))
      (pss_nil)))), ?_⟩
  rintro self ⟨_⟩ hpre B S0 Q hret
  show At _ _ _ _ [.ow self, .no]
  obtain ⟨⟨⟨hgo, hst⟩, n0, n1⟩, hal⟩ := hpre
  (try dsimp only at hgo hst n0 n1 hal)
  refine q_drop (ev_methM (i := 0) (by decide +kernel) rfl (ea_nil) rfl (by exact hst)) ?_
  show At _ _ _ _ [.ow self, .no]
  refine qg_inv (fun st_ : (Car C) => [.ow st_, .no]) (fun pre (st : Car C) => st = lackC self pre) self (it_list (ev_methM (i := 0) (by decide +kernel) rfl (ea_nil) rfl (by exact ⟨n0, n1⟩))) (.k (.d .n)) (by unfold lackC; rfl) (fun pre0 sheet post0 s0 ex0 hs0 Sb0 rb0 => ⟨_, _, tg_name rfl, ?_⟩) (fun s0 hs0 => ?_)
  ·
    show At _ _ _ _ [.ow s0, .im sheet]
    refine q_putB (i := 0) (ev_bl) rfl (ev_var (i := 1) rfl) (by rw [hs0]; have h8 := lackC_len self pre0; have h9 := clf_len self; have h7 := congrArg List.length ex0; rw [List.length_append, List.length_cons] at h7; dsimp only at h7; exact lt_line (by omega)) ?_
    refine at_genO 0 rfl fun self1 h_self1 => ?_
    show At _ _ _ _ [.ow self1, .im sheet]
    exact q_next (at_mid (.k (.d .n)) ⟨self1, by rfl, by rw [lackC_snoc, h_self1, hs0]⟩)
  ·
    show At _ _ _ _ [.ow s0, .no]
    refine q_drop (ev_methM (i := 0) (by decide +kernel) rfl (ea_nil) rfl (by rw [hs0, (lackC_goal _ _).1]; exact hgo)) ?_
    refine at_genO 0 rfl fun self2 h_self2 => ?_
    show At _ _ _ _ [.ow self2, .no]
    exact q_ret (ev_made (i := 0) rfl) (hret _ _ _ rfl (by rw [h_self2, hs0]; unfold goesC; dsimp only; rw [(lackC_goal _ _).2]))
end
theorem sc_Carried_now : FnScope ["self"] ["self"] (defScope s_Carried_now) := ⟨rfl, rfl, rfl, by decide +kernel, rfl, by decide +kernel, by decide +kernel⟩
section
variable {P : Program} {w : World} {K : Fg} {mg : Str → Option Value} {base : Heap}
set_option maxHeartbeats 4000000 in
theorem ok_Carried_now {C : Addr} {Y : XC → Addr} (T : Tx K mg C Y)  : MCal P w K mg base 1 C "now" ["self"] (spM K (fun (z : (Car C)) (a : Unit) => (z.st, z)) (fun z a => True)) := by
  have nd := sc_Carried_now.nd
  refine mdef_spM (k := 0) T.m_Carried_now sc_Carried_now rfl (fun _ _ _ => rfl) fun fa cdv A outer s H E hr => ?_
  refine ⟨_, pss_cons (ps_ret (pe_fld (pv 0) rfl))
      (pss_nil), ?_⟩
  rintro self ⟨_⟩ hpre B S0 Q hret
  show At _ _ _ _ [.ow self]
  exact q_ret (ev_stand (i := 0) rfl) (hret _ _ _ rfl (by rfl))
end
theorem sc_Carried_ticks : FnScope ["self"] ["self"] (defScope s_Carried_ticks) := ⟨rfl, rfl, rfl, by decide +kernel, rfl, by decide +kernel, by decide +kernel⟩
section
variable {P : Program} {w : World} {K : Fg} {mg : Str → Option Value} {base : Heap}
set_option maxHeartbeats 4000000 in
theorem ok_Carried_ticks {C : Addr} {Y : XC → Addr} (T : Tx K mg C Y)  : MCal P w K mg base 1 C "ticks" ["self"] (spM K (fun (z : (Car C)) (a : Unit) => (z.done, z)) (fun z a => True)) := by
  have nd := sc_Carried_ticks.nd
  refine mdef_spM (k := 0) T.m_Carried_ticks sc_Carried_ticks rfl (fun _ _ _ => rfl) fun fa cdv A outer s H E hr => ?_
  refine ⟨_, pss_cons (ps_ret (pe_fld (pv 0) rfl))
      (pss_nil), ?_⟩
  rintro self ⟨_⟩ hpre B S0 Q hret
  show At _ _ _ _ [.ow self]
  exact q_ret (ev_done (i := 0) rfl) (hret _ _ _ rfl (by rfl))
end
theorem sc_Carried_bring : FnScope ["self", "p"] ["self", "p"] (defScope s_Carried_bring) := ⟨rfl, rfl, rfl, by decide +kernel, rfl, by decide +kernel, by decide +kernel⟩
section
variable {P : Program} {w : World} {K : Fg} {mg : Str → Option Value} {base : Heap}
set_option maxHeartbeats 4000000 in
theorem ok_Carried_bring {C : Addr} {Y : XC → Addr} (T : Tx K mg C Y)  : MCalX P w K mg base 1 C "bring" ["self", "p"] (spOX K Y (fun (z : Car C) (a : Int × Unit) (y : Unit) (z_ : Car C) => (z.absent.get? a.1).isSome = true ∧ z_ = bringC z a.1) (fun (z : Car C) (a : Int × Unit) (e : XC) => e = XC.noStep ∧ (z.absent.get? a.1).isSome = false) (fun z a => True)) := by
  have nd := sc_Carried_bring.nd
  refine mdef_spOX (k := 0) T.m_Carried_bring sc_Carried_bring rfl fun fa cdv A outer s H E hr => ?_
  refine ⟨_, pss_cons (ps_if (pt_cmp (pc_dnotin (hu_of hr) (pv 1) (pe_fld (pv 0) rfl))) (pss_cons (ps_raiseX T.x_noStep rfl (takes_of rfl rfl rfl rfl) rfl)
      (pss_nil)) (pss_nil))
      (pss_cons (ps_expr (pe_dpop1 (pe_fld (pv 0) rfl) (pv 1) ⟨rfl, rfl, rfl, rfl⟩))
      (pss_nil)), ?_⟩
  rintro self ⟨p, _⟩ hpre B S0 Q hret herr
  show At _ _ _ _ [.ow self, .im p]
  refine q_if (et_B (ev_ninB_ (i := 0) (ev_var (i := 1) rfl) rfl)) (fun hb0 => ?_) (fun hb0 => ?_)
  ·
    refine q_raise ?_
    exact herr _ _ rfl (by exact ⟨rfl, by simpa using hb0⟩)
  ·
    refine q_next ?_
    refine q_pop1B (i := 0) rfl (ev_var (i := 1) rfl) (by simpa using hb0) ?_
    refine at_genO 0 rfl fun self1 h_self1 => ?_
    show At _ _ _ _ [.ow self1, .im p]
    exact fun S_ σ_ H_ F_ k_ => hret _ () _ rfl (by rw [h_self1]) (by exact ⟨by simpa using hb0, by rw [h_self1]; unfold bringC; rfl⟩) S_ σ_ H_ F_ .non k_ rfl
end
section
variable {P : Program} {w : World} {K : Fg} {mg : Str → Option Value} {base : Heap}
set_option maxHeartbeats 4000000 in
theorem ok_Carried_bring_n {C : Addr} {Y : XC → Addr} (T : Tx K mg C Y)  : MCal P w K mg base 1 C "bring" ["self", "p"] (spM K (fun (z : (Car C)) (a : Int × Unit) => ((), bringC z a.1)) (fun z a => (z.absent.get? a.1).isSome = true)) := by
  have nd := sc_Carried_bring.nd
  refine mdef_spM (k := 0) T.m_Carried_bring sc_Carried_bring rfl (fun z a _ => bring_fp z a.1) fun fa cdv A outer s H E hr => ?_
  refine ⟨_, pss_cons (ps_if (pt_cmp (pc_dnotin (hu_of hr) (pv 1) (pe_fld (pv 0) rfl))) (pss_cons ps_never (pss_nil)) (pss_nil))
      (pss_cons (ps_expr (pe_dpop1 (pe_fld (pv 0) rfl) (pv 1) ⟨rfl, rfl, rfl, rfl⟩))
      (pss_nil)), ?_⟩
  rintro self ⟨p, _⟩ hpre B S0 Q hret
  show At _ _ _ _ [.ow self, .im p]
  have hab := hpre
  (try dsimp only at hab)
  refine q_ifF (et_B (ev_ninB_ (i := 0) (ev_var (i := 1) rfl) rfl)) ?_ ?_
  · rw [hab]; rfl
  refine q_pop1B (i := 0) rfl (ev_var (i := 1) rfl) (by exact hab) ?_
  refine at_genO 0 rfl fun self1 h_self1 => ?_
  show At _ _ _ _ [.ow self1, .im p]
  exact fun S_ σ_ H_ F_ k_ => hret _ () _ rfl (by rw [h_self1]; unfold bringC; rfl) S_ σ_ H_ F_ .non k_ rfl
end
theorem sc_gone : FnScope ["program", "stand", "letters", "many", "waiting", "said", "found", "come", "now", "word", "number", "reads", "writes"] ["program", "stand", "letters", "many"] (defScope s_gone) := ⟨rfl, rfl, rfl, by decide +kernel, rfl, by decide +kernel, by decide +kernel⟩
section
variable {P : Program} {w : World} {K : Fg} {mg : Str → Option Value} {base : Heap}
set_option maxHeartbeats 4000000 in
theorem ok_gone {C : Addr} {Y : XC → Addr} (T : Tx K mg C Y) (c_tick_ticks : Cal P w K mg base 3 "tick_ticks" ["program", "stand", "letters"] (spF K (fun a : (T3 Int Int (Tp WRow)) × (Int × (Tp Int)) × (List Int) × Unit => tickM a.1 a.2.1 a.2.2.1) (fun a => ProgOk a.1 ∧ StandOk a.1 a.2.1 ∧ a.2.2.1.length ≤ 100000))) : Cal P w K mg base 4 "gone" ["program", "stand", "letters", "many"] (spN K (fun a : (T3 Int Int (Tp WRow)) × (Int × (Tp Int)) × (List (Int × Int)) × Int × Unit => runM a.1 a.2.1 a.2.2.1 a.2.2.2.1) (fun a => ProgOk a.1 ∧ StandOk a.1 a.2.1 ∧ LetsOk a.1 a.2.2.1 ∧ 0 ≤ a.2.2.2.1 ∧ a.2.2.2.1 ≤ 10000)) := by
  have nd := sc_gone.nd
  refine def_spN (k := 3) T.d_gone sc_gone rfl fun fa cdv A outer s H E hr => ?_
  refine ⟨_, pss_cons (ps_set (i := 4) nd rfl (.inl rfl) (pe_lst (pa_nil)))
      (pss_cons (ps_set (i := 5) nd rfl (.inl rfl) (pe_lst (pa_nil)))
      (pss_cons (ps_set (i := 6) nd rfl (.inl rfl) (pe_lst (pa_nil)))
      (pss_cons (ps_set (i := 7) nd rfl (.inl rfl) (pe_int))
      (pss_cons (ps_for PassesOwn.never rfl (pi_range1 (by rfl) T.n_range (pa_cons (pv 3) pa_nil)) (pg_name (i := 8) nd rfl (.inl rfl))
      (pss_cons (ps_while PassesOwn.never (PW.pt (pw_and (pt_cmpR op_lt (pv 7) (pe_callB call_lenG (by rfl) T.n_len (by decide +kernel) (pa_cons (pv 2) pa_nil)) (nomark _)) (pw_and1 (pt_cmpR op_le (pe_ix (r := rIxT K) ix_tup (pe_ix (r := rIxL K) ix_list (pv 2) (pv 7) (fun _ _ => rfl)) pe_int (fun _ _ => rfl)) (pv 8) (nomark _)))))
      (pss_cons (ps_expr (pe_bm PySem.F.plainAttrs_list PySem.F.slot_list_append PySem.F.type_list_append mt_append (pv 4) (pa_cons (pe_ix (r := rIxT K) ix_tup (pe_ix (r := rIxL K) ix_list (pv 2) (pv 7) (fun _ _ => rfl)) pe_int (fun _ _ => rfl)) pa_nil)))
      (pss_cons (ps_set (i := 7) nd rfl (.inl rfl) (pe_op op_add (pv 7) (pe_int)))
      (pss_nil))))
      (pss_cons (ps_asg (pe_cal c_tick_ticks hr (by decide) (by rfl) (pa_cons (pv 0) (pa_cons (pv 1) (pa_cons (pv 4) pa_nil)))) (pg_tup rfl (pgs_cons (pg_name (i := 1) nd rfl (.inl rfl)) (pgs_cons (pg_name (i := 9) nd rfl (.inl rfl)) (pgs_cons (pg_name (i := 10) nd rfl (.inl rfl)) (pgs_cons (pg_name (i := 11) nd rfl (.inl rfl)) (pgs_cons (pg_name (i := 12) nd rfl (.inl rfl)) (pgs_nil))))))))
      (Evl.pss_cut (ps_if (pt_cmpR op_eq (pv 9) (pe_str) (nomark _)) (pss_cons (ps_expr (pe_bm PySem.F.plainAttrs_list PySem.F.slot_list_pop PySem.F.type_list_pop mt_popAt (pv 4) (pa_cons pe_int pa_nil)))
      (pss_nil)) (pss_nil))
      (Evl.pss_cut (ps_if (pt_cmpR op_eq (pv 9) (pe_str) (nomark _)) (pss_cons (ps_expr (pe_bm PySem.F.plainAttrs_list PySem.F.slot_list_append PySem.F.type_list_append mt_append (pv 5) (pa_cons (pe_tup (pa_cons (pv 8) (pa_cons (pv 10) pa_nil))) pa_nil)))
      (pss_nil)) (pss_nil))
      (pss_cons (ps_expr (pe_bm PySem.F.plainAttrs_list PySem.F.slot_list_append PySem.F.type_list_append mt_append (pv 6) (pa_cons (pe_tup (pa_cons (pv 11) (pa_cons (pv 12) pa_nil))) pa_nil)))
      (pss_nil)))))))
      (pss_cons (ps_ret (pe_tup (pa_cons (pv 1) (pa_cons (pv 5) (pa_cons (pv 6) pa_nil)))))
      (pss_nil)))))), ?_⟩
  rintro ⟨program, stand, letters, many, _⟩ hpre B S0 Q hret
  show At _ _ _ _ [.im program, .im stand, .im letters, .im many, .no, .no, .no, .no, .no, .no, .no, .no, .no]
  obtain ⟨gk, sk, lk, m0, m1⟩ := hpre
  dsimp only at gk sk lk m0 m1
  have hll := lk.len
  refine qg_own 4 (el_lst (els_nil (α := Int)) (by simp)) rfl fun waiting h_waiting => ?_
  refine qg_own 5 (el_lst (els_nil (α := (Int × (Option Int)))) (by simp)) rfl fun said h_said => ?_
  refine qg_own 6 (el_lst (els_nil (α := ((Tp Int) × (Tp Int)))) (by simp)) rfl fun found h_found => ?_
  show At _ _ _ _ [.im program, .im stand, .im letters, .im many, .ow waiting, .ow said, .ow found, .no, .no, .no, .no, .no, .no]
  refine qg_set 7 (ev_int) rfl fun come h_come => ?_
  refine qg_inv (fun st_ : (List Int) × (List (Int × (Option Int))) × (List ((Tp Int) × (Tp Int))) × Int × (Int × (Tp Int)) => [.im program, .im st_.2.2.2.2, .im letters, .im many, .ow st_.1, .ow st_.2.1, .ow st_.2.2.1, .im st_.2.2.2.1, .no, .no, .no, .no, .no]) (fun pre (st : List Int × Said × Tou × Int × Stand) => GonI program stand letters pre st) (waiting, said, found, come, stand) (it_rng1 (ev_var (i := 3) rfl) (by first | omega | (dsimp only; omega))) (.k (.k (.k (.k (.k (.k (.k (.k (.d (.d (.d (.d (.d .n))))))))))))) (by rw [h_waiting, h_said, h_found, h_come]; exact GonI.start program stand letters) (fun pre0 now post0 s0 ex0 hs0 Sb0 rb0 => ⟨_, _, tg_name rfl, ?_⟩) (fun s0 hs0 => ?_)
  ·
    obtain ⟨waiting_b, said_b, found_b, come_b, stand_b⟩ := s0
    show At _ _ _ _ [.im program, .im stand_b, .im letters, .im many, .ow waiting_b, .ow said_b, .ow found_b, .im come_b, .im now, .no, .no, .no, .no]
    have hpl := rng_pre ex0
    have hnw : ∀ p ∈ pre0, p < now := fun p hp => by rw [hpl.1] at hp; exact (mem_rng.mp hp).2
    have hro := run_ok gk sk lk pre0
    have hrl := run_len (g := program) (s := stand) (l := letters) pre0
    have hst : stand_b = (runF program stand letters pre0).2.1 := hs0.stand
    have hsb : said_b = (runF program stand letters pre0).2.2.1 := hs0.said
    have hfb : found_b = (runF program stand letters pre0).2.2.2 := hs0.fnd
    have hso : StandOk program stand_b := by rw [hst]; exact hro.1
    refine qg_whI (fun st_ : (List Int) × Int => [.im program, .im stand_b, .im letters, .im many, .ow st_.1, .ow said_b, .ow found_b, .im st_.2, .im now, .no, .no, .no, .no]) (fun st => decide (st.2 < (letters.length : Int)) && decide ((ix letters st.2).1 ≤ now)) (waiting_b, come_b) (WgI letters (runF program stand letters pre0).1 now) (fun st => ((letters.length : Int) - st.2).toNat) (.k (.k (.k (.k (.k (.k (.k (.k (.k (.d (.d (.d (.d .n))))))))))))) (by exact hs0.wg now hnw) (fun s1 hI1 => ?_) (fun s1 hI1 hc1 Sb1 rb1 => ?_) (fun s1 hI1 hc1 Sb1 rb1 => ?_)
    ·
      obtain ⟨waiting_c, come_c⟩ := s1
      show EvT _ _ [.im program, .im stand_b, .im letters, .im many, .ow waiting_c, .ow said_b, .ow found_b, .im come_c, .im now, .no, .no, .no, .no] _ [.im program, .im stand_b, .im letters, .im many, .ow waiting_c, .ow said_b, .ow found_b, .im come_c, .im now, .no, .no, .no, .no]
      exact et_and (et_test (ev_b0 (ev_var (i := 7) rfl) (ev_len (EvX.c (ev_var (i := 2) rfl))))) (fun hc => et_test (ev_b0 (ev_fst (ev_ix (ev_var (i := 2) rfl) (ev_var (i := 7) rfl) (by have h0 : 0 ≤ come_c := hI1.c0; have h9 := of_decide_eq_true hc; constructor <;> omega))) (ev_var (i := 8) rfl)))
    ·
      obtain ⟨waiting_b1, come_b1⟩ := s1
      show At _ _ _ _ [.im program, .im stand_b, .im letters, .im many, .ow waiting_b1, .ow said_b, .ow found_b, .im come_b1, .im now, .no, .no, .no, .no]
      have hcc : (decide (come_b1 < (letters.length : Int)) && decide ((ix letters come_b1).1 ≤ now)) = true := hc1
      have hc2 := of_decide_eq_true (Bool.and_eq_true_iff.mp hcc).1
      have hc3 := of_decide_eq_true (Bool.and_eq_true_iff.mp hcc).2
      have h0 : 0 ≤ come_b1 := hI1.c0
      have hwb : waiting_b1.length ≤ 1000 := by
        have h := hI1.w
        dsimp only at h
        rw [h, List.length_drop, List.length_map, List.length_take]
        omega
      refine qg_app 4 rfl (ev_snd (ev_ix (ev_var (i := 2) rfl) (ev_var (i := 7) rfl) (by constructor <;> omega))) rfl (by show waiting_b1.length < sizeLine; exact le_line (by omega)) fun waiting1 h_waiting1 => ?_
      refine qg_set 7 (ev_i0 (ev_var (i := 7) rfl) (ev_int)) rfl fun come1 h_come1 => ?_
      refine q_next (at_mid (.k (.k (.k (.k (.k (.k (.k (.k (.k (.d (.d (.d (.d .n))))))))))))) ⟨(waiting1, come1), by rfl, ?_, ?_⟩)
      · rw [h_waiting1, h_come1]; exact hI1.step hro.2 hc2 hc3
      · dsimp only; omega
    ·
      obtain ⟨waiting_e, come_e⟩ := s1
      show At _ _ _ _ [.im program, .im stand_b, .im letters, .im many, .ow waiting_e, .ow said_b, .ow found_b, .im come_e, .im now, .no, .no, .no, .no]
      obtain ⟨hwe, -⟩ := hI1.done lk.srt hc1
      have hao := avail_ok lk now (runF program stand letters pre0).1.toNat
      rw [← hwe] at hao
      refine qg_t5 1 9 10 11 12 (ev_callBL (i := 4) rfl (vv_cons (i := 0) rfl (vv_cons (i := 1) rfl (vv_cons (i := 4) rfl (vv_nil)))) (by exact ⟨gk, hso, hao.2⟩)) rfl rfl rfl rfl rfl fun stand1 word number reads writes h_stand1 h_word h_number h_reads h_writes => ?_
      refine q_cut1 [.im program, .im stand1, .im letters, .im many, .ow (if decide (word = Str.ofString "took") = true then waiting_e.drop 1 else waiting_e), .ow said_b, .ow found_b, .im come_e, .im now, .im word, .im number, .im reads, .im writes] ?_ ?_
      · refine q_ifc (et_test (ev_eq (ev_var (i := 9) rfl) (ev_str))) (fun hb0 => ?_) (fun hb0 => ?_)
        ·
          refine q_drop (ev_pop0 (i := 4) rfl (by rw [h_word] at hb0; exact took_ne hb0)) ?_
          refine at_genO 4 rfl fun waiting2 h_waiting2 => ?_
          show At _ _ _ _ [.im program, .im stand1, .im letters, .im many, .ow waiting2, .ow said_b, .ow found_b, .im come_e, .im now, .im word, .im number, .im reads, .im writes]
          refine q_next ?_
          exact at_mid (.k (.k (.k (.k (.k (.k (.k (.k (.k (.k (.k (.k (.k .n))))))))))))) (by rw [h_waiting2, if_pos hb0])
        ·
          refine q_next ?_
          exact at_mid (.k (.k (.k (.k (.k (.k (.k (.k (.k (.k (.k (.k (.k .n))))))))))))) (by rw [if_neg (by rw [hb0]; decide)])
      refine at_genO 4 rfl fun waiting3 h_waiting3 => ?_
      refine q_cut1 [.im program, .im stand1, .im letters, .im many, .ow waiting3, .ow (if decide (word = Str.ofString "said") = true then said_b ++ [(now, number)] else said_b), .ow found_b, .im come_e, .im now, .im word, .im number, .im reads, .im writes] ?_ ?_
      · refine q_ifc (et_test (ev_eq (ev_var (i := 9) rfl) (ev_str))) (fun hb1 => ?_) (fun hb1 => ?_)
        ·
          refine qg_app 5 rfl (ev_pair (ev_var (i := 8) rfl) (ev_var (i := 10) rfl)) rfl (by show said_b.length < sizeLine; rw [hsb]; exact le_line (by omega)) fun said1 h_said1 => ?_
          refine q_next ?_
          exact at_mid (.k (.k (.k (.k (.k (.k (.k (.k (.k (.k (.k (.k (.k .n))))))))))))) (by rw [h_said1, if_pos hb1])
        ·
          refine q_next ?_
          exact at_mid (.k (.k (.k (.k (.k (.k (.k (.k (.k (.k (.k (.k (.k .n))))))))))))) (by rw [if_neg (by rw [hb1]; decide)])
      refine at_genO 5 rfl fun said2 h_said2 => ?_
      refine qg_app 6 rfl (ev_pair (ev_var (i := 11) rfl) (ev_var (i := 12) rfl)) rfl (by show found_b.length < sizeLine; rw [hfb]; exact le_line (by omega)) fun found1 h_found1 => ?_
      exact At.reb rb1 (q_next (at_mid (.k (.k (.k (.k (.k (.k (.k (.k (.d (.d (.d (.d (.d .n))))))))))))) ⟨(waiting3, said2, found1, come_e, stand1), by rfl, by rw [h_waiting3, h_said2, h_found1, h_stand1, h_number, h_reads, h_writes, h_word]; exact hs0.step (t := tickM program stand_b waiting_e) gk sk lk ex0 hI1 hwe rfl⟩))
  ·
    obtain ⟨waiting_e1, said_e, found_e, come_e1, stand_e⟩ := s0
    show At _ _ _ _ [.im program, .im stand_e, .im letters, .im many, .ow waiting_e1, .ow said_e, .ow found_e, .im come_e1, .no, .no, .no, .no, .no]
    refine at_relF (i := 5) rfl ?_
    refine at_relF (i := 6) rfl ?_
    exact q_ret (ev_t3F (EvX.toF B (ev_var (i := 1) rfl)) (ev_var (i := 5) rfl) (ev_var (i := 6) rfl)) (hret _ _ (by exact runM_gon hs0))
end
theorem sc_run : FnScope ["program", "stand", "letters", "many"] ["program", "stand", "letters", "many"] (defScope s_run) := ⟨rfl, rfl, rfl, by decide +kernel, rfl, by decide +kernel, by decide +kernel⟩
section
variable {P : Program} {w : World} {K : Fg} {mg : Str → Option Value} {base : Heap}
set_option maxHeartbeats 4000000 in
theorem ok_run {C : Addr} {Y : XC → Addr} (T : Tx K mg C Y) (c_gone : Cal P w K mg base 4 "gone" ["program", "stand", "letters", "many"] (spN K (fun a : (T3 Int Int (Tp WRow)) × (Int × (Tp Int)) × (List (Int × Int)) × Int × Unit => runM a.1 a.2.1 a.2.2.1 a.2.2.2.1) (fun a => ProgOk a.1 ∧ StandOk a.1 a.2.1 ∧ LetsOk a.1 a.2.2.1 ∧ 0 ≤ a.2.2.2.1 ∧ a.2.2.2.1 ≤ 10000))) : Cal P w K mg base 5 "run" ["program", "stand", "letters", "many"] (spN K (fun a : (T3 Int Int (Tp WRow)) × (Int × (Tp Int)) × (List (Int × Int)) × Int × Unit => (((runM a.1 a.2.1 a.2.2.1 a.2.2.2.1).a, (runM a.1 a.2.1 a.2.2.1 a.2.2.2.1).b) : Stand × Said)) (fun a => ProgOk a.1 ∧ StandOk a.1 a.2.1 ∧ LetsOk a.1 a.2.2.1 ∧ 0 ≤ a.2.2.2.1 ∧ a.2.2.2.1 ≤ 10000)) := by
  have nd := sc_run.nd
  refine def_spN (k := 4) T.d_run sc_run rfl fun fa cdv A outer s H E hr => ?_
  refine ⟨_, pss_cons (ps_ret (pe_slice sl_tupA (pe_cal c_gone hr (by decide) (by rfl) (pa_cons (pv 0) (pa_cons (pv 1) (pa_cons (pv 2) (pa_cons (pv 3) pa_nil))))) po_none (po_some pe_int)))
      (pss_nil), ?_⟩
  rintro ⟨program, stand, letters, many, _⟩ hpre B S0 Q hret
  show At _ _ _ _ [.im program, .im stand, .im letters, .im many]
  refine q_retN2 (ea_cons (ev_var (i := 0) rfl) (ea_cons (ev_var (i := 1) rfl) (ea_cons (ev_var (i := 2) rfl) (ea_cons (ev_var (i := 3) rfl) (ea_nil))))) (by exact hpre) (fun y_ hy_ => hret _ _ (by rw [hy_]; skip))
end
theorem sc_touches : FnScope ["program", "stand", "letters", "many"] ["program", "stand", "letters", "many"] (defScope s_touches) := ⟨rfl, rfl, rfl, by decide +kernel, rfl, by decide +kernel, by decide +kernel⟩
section
variable {P : Program} {w : World} {K : Fg} {mg : Str → Option Value} {base : Heap}
set_option maxHeartbeats 4000000 in
theorem ok_touches {C : Addr} {Y : XC → Addr} (T : Tx K mg C Y) (c_gone : Cal P w K mg base 4 "gone" ["program", "stand", "letters", "many"] (spN K (fun a : (T3 Int Int (Tp WRow)) × (Int × (Tp Int)) × (List (Int × Int)) × Int × Unit => runM a.1 a.2.1 a.2.2.1 a.2.2.2.1) (fun a => ProgOk a.1 ∧ StandOk a.1 a.2.1 ∧ LetsOk a.1 a.2.2.1 ∧ 0 ≤ a.2.2.2.1 ∧ a.2.2.2.1 ≤ 10000))) : Cal P w K mg base 5 "touches" ["program", "stand", "letters", "many"] (spN K (fun a : (T3 Int Int (Tp WRow)) × (Int × (Tp Int)) × (List (Int × Int)) × Int × Unit => (runM a.1 a.2.1 a.2.2.1 a.2.2.2.1).c) (fun a => ProgOk a.1 ∧ StandOk a.1 a.2.1 ∧ LetsOk a.1 a.2.2.1 ∧ 0 ≤ a.2.2.2.1 ∧ a.2.2.2.1 ≤ 10000)) := by
  have nd := sc_touches.nd
  refine def_spN (k := 4) T.d_touches sc_touches rfl fun fa cdv A outer s H E hr => ?_
  refine ⟨_, pss_cons (ps_ret (pe_ix (r := rIxT K) ix_tup (pe_cal c_gone hr (by decide) (by rfl) (pa_cons (pv 0) (pa_cons (pv 1) (pa_cons (pv 2) (pa_cons (pv 3) pa_nil))))) pe_int (fun _ _ => rfl)))
      (pss_nil), ?_⟩
  rintro ⟨program, stand, letters, many, _⟩ hpre B S0 Q hret
  show At _ _ _ _ [.im program, .im stand, .im letters, .im many]
  refine q_retN3 (ea_cons (ev_var (i := 0) rfl) (ea_cons (ev_var (i := 1) rfl) (ea_cons (ev_var (i := 2) rfl) (ea_cons (ev_var (i := 3) rfl) (ea_nil))))) (by exact hpre) (fun y_ hy_ => hret _ _ (by rw [hy_]; skip))
end
theorem sc__law_pen : FnScope ["script"] ["script"] (defScope s__law_pen) := ⟨rfl, rfl, rfl, by decide +kernel, rfl, by decide +kernel, by decide +kernel⟩
section
variable {P : Program} {w : World} {K : Fg} {mg : Str → Option Value} {base : Heap}
set_option maxHeartbeats 4000000 in
theorem ok__law_pen {C : Addr} {Y : XC → Addr} (T : Tx K mg C Y)  : Cal P w K mg base 1 "_law_pen" ["script"] (spPen K) := by
  have nd := sc__law_pen.nd
  refine def_pen (k := 0) T.d__law_pen sc__law_pen rfl fun fa cdv A outer s H E hr => ?_
  refine ⟨_, pss_cons (ps_ret (pe_lst (pa_cons (pe_callTy call_listG (by rfl) T.n_list (by decide +kernel) (pa_cons (pe_slice sl_list (pv 0) po_none (po_some (pe_int))) pa_nil)) (pa_cons (pe_int) (pa_cons (pe_int) pa_nil)))))
      (pss_nil), ?_⟩
  intro script hpre B S0 Q hret
  show At _ _ _ _ [.im script]
  exact q_retPen (el_list (EvL.c (el_sliceS (ev_var (i := 0) rfl) eo_none (eo_some (ev_int))))) (fun S_ σ_ H_ F_ p_ q_ k1 a1 a2 a3 a4 a5 a6 => hret _ _ S_ σ_ H_ F_ p_ q_ (by exact pen_cut hpre _ _) k1 a1 a2 a3 a4 a5 a6)
end
theorem sc__law_take : FnScope ["pen", "many", "at", "cell", "one", "two", "three", "found"] ["pen", "many"] (defScope s__law_take) := ⟨rfl, rfl, rfl, by decide +kernel, rfl, by decide +kernel, by decide +kernel⟩
section
variable {P : Program} {w : World} {K : Fg} {mg : Str → Option Value} {base : Heap}
set_option maxHeartbeats 4000000 in
theorem ok__law_take {C : Addr} {Y : XC → Addr} (T : Tx K mg C Y)  : Cal P w K mg base 1 "_law_take" ["pen", "many"] (spM K (fun (z : Pen) (a : Int × Unit) => penTake z a.1) (fun z a => 0 < a.1 ∧ a.1 < 1073741824)) := by
  have nd := sc__law_take.nd
  refine def_spM (k := 0) T.d__law_take sc__law_take rfl (fun z a _ => pen_fp z a.1) fun fa cdv A outer s H E hr => ?_
  refine ⟨_, Evl.pss_cut (ps_if (pt_cmpR op_eq (pe_ix (r := rIxL K) ix_list (pv 0) (pe_int) (fun _ _ => rfl)) (pe_int) (nomark _)) (pss_cons (ps_set (i := 2) nd rfl (.inl rfl) (pe_ix (r := rIxL K) ix_list (pv 0) (pe_int) (fun _ _ => rfl)))
      (pss_cons (ps_asg (pe_op op_add (pv 2) (pe_int)) (pg_sub (pv 0) pe_int set_list))
      (pss_cons (ps_set (i := 3) nd rfl (.inl rfl) (pe_int))
      (Evl.pss_cut (ps_if (pt_cmpR op_lt (pv 2) (pe_callB call_lenG (by rfl) T.n_len (by decide +kernel) (pa_cons (pe_ix (r := rIxL K) ix_list (pv 0) (pe_int) (fun _ _ => rfl)) pa_nil)) (nomark _)) (pss_cons (ps_set (i := 3) nd rfl (.inl rfl) (pe_ix (r := rIxL K) ix_list (pe_ix (r := rIxL K) ix_list (pv 0) (pe_int) (fun _ _ => rfl)) (pv 2) (fun _ _ => rfl)))
      (pss_nil)) (Evl.pss_cut (ps_if (pt_cmpR op_gt (pe_callB call_lenG (by rfl) T.n_len (by decide +kernel) (pa_cons (pe_ix (r := rIxL K) ix_list (pv 0) (pe_int) (fun _ _ => rfl)) pa_nil)) (pe_int) (nomark _)) (pss_cons (ps_set (i := 3) nd rfl (.inl rfl) (pe_op op_add (pe_op op_mod (pe_ix (r := rIxL K) ix_list (pe_ix (r := rIxL K) ix_list (pv 0) (pe_int) (fun _ _ => rfl)) (pe_op op_mod (pe_op op_mul (pv 2) (pe_int)) (pe_callB call_lenG (by rfl) T.n_len (by decide +kernel) (pa_cons (pe_ix (r := rIxL K) ix_list (pv 0) (pe_int) (fun _ _ => rfl)) pa_nil))) (fun _ _ => rfl)) (pe_int)) (pe_op op_mul (pe_int) (pv 2))))
      (pss_nil)) (pss_nil))
      (pss_nil)))
      (pss_cons (ps_set (i := 4) nd rfl (.inl rfl) (pe_op op_mod (pe_op op_mul (pe_op op_add (pe_op op_add (pe_op op_mod (pv 3) (pe_int)) (pe_op op_mul (pe_int) (pv 2))) (pe_int)) (pe_int)) (pe_int)))
      (pss_cons (ps_set (i := 5) nd rfl (.inl rfl) (pe_op op_mod (pe_op op_add (pe_op op_add (pe_op op_mul (pv 4) (pv 4)) (pe_op op_mul (pe_int) (pv 2))) (pe_int)) (pe_int)))
      (pss_cons (ps_set (i := 6) nd rfl (.inl rfl) (pe_op op_mod (pe_op op_add (pe_op op_mul (pv 5) (pv 5)) (pv 4)) (pe_int)))
      (pss_cons (ps_asg (pe_op op_add (pe_op op_fdiv (pe_op op_add (pe_op op_mul (pv 5) (pe_int)) (pv 6)) (pe_int)) (pe_int)) (pg_sub (pv 0) pe_int set_list))
      (Evl.pss_cut (ps_if (pt_cmpR op_ge (pv 3) (pe_op op_pow (pe_int) (pe_int)) (nomark _)) (pss_cons (ps_asg (pe_op op_fdivW (pv 3) (pe_op op_pow (pe_int) (pe_int))) (pg_sub (pv 0) pe_int set_list))
      (pss_nil)) (pss_nil))
      (pss_nil)))))))))) (pss_nil))
      (pss_cons (ps_set (i := 7) nd rfl (.inl rfl) (pe_op op_mod (pe_ix (r := rIxL K) ix_list (pv 0) (pe_int) (fun _ _ => rfl)) (pv 1)))
      (pss_cons (ps_asg (pe_op op_fdiv (pe_ix (r := rIxL K) ix_list (pv 0) (pe_int) (fun _ _ => rfl)) (pv 1)) (pg_sub (pv 0) pe_int set_list))
      (pss_cons (ps_ret (pv 7))
      (pss_nil)))), ?_⟩
  rintro pen ⟨many, _⟩ hpre B S0 Q hret
  show At _ _ _ _ [.ow pen, .im many, .no, .no, .no, .no, .no, .no]
  obtain ⟨h0, h1⟩ := hpre
  dsimp only at h0 h1
  refine q_cutI (fun st_ : Pen => [.ow st_, .im many, .no, .no, .no, .no, .no, .no]) (fun st => st = fillM pen) ?_ (fun sI0 hI_0 => ?_)
  · refine q_ifc (et_test (ev_eq (ev_pen2 (i := 0) rfl) (ev_int))) (fun hb0 => ?_) (fun hb0 => ?_)
    ·
      refine qg_set 2 (ev_pen1 (i := 0) rfl) rfl fun at_ h_at_ => ?_
      refine q_pen1 (i := 0) (pen.p + 1) (ev_i0 (ev_var (i := 2) rfl) (ev_int)) rfl (by subst_vars; rfl) ?_
      refine at_genO 0 rfl fun pen1 h_pen1 => ?_
      show At _ _ _ _ [.ow pen1, .im many, .im at_, .no, .no, .no, .no, .no]
      refine qg_set 3 (ev_int) rfl fun cell h_cell => ?_
      refine q_cut1 [.ow pen1, .im many, .im at_, .im (cellM pen.l pen.p), .no, .no, .no, .no] ?_ ?_
      · refine q_ifc (et_test (ev_b0 (ev_var (i := 2) rfl) (ev_penLen (i := 0) rfl))) (fun hb1 => ?_) (fun hb1 => ?_)
        ·
          refine qg_set 3 (ev_penAt (i := 0) rfl (ev_var (i := 2) rfl) (by exact ⟨by omega, of_decide_eq_true hb1⟩)) rfl fun cell1 h_cell1 => ?_
          refine q_next ?_
          exact at_mid (.k (.k (.k (.k (.d (.d (.d (.d .n)))))))) (by have e : cell1 = cellM pen.l pen.p := (by subst_vars; unfold cellM; exact (if_pos hb1).symm); rw [e])
        ·
          refine q_cut1 [.ow pen1, .im many, .im at_, .im (cellM pen.l pen.p), .no, .no, .no, .no] ?_ ?_
          · refine q_ifc (et_test (ev_b0 (ev_penLen (i := 0) rfl) (ev_int))) (fun hb2 => ?_) (fun hb2 => ?_)
            ·
              refine qg_set 3 (ev_i0 (ev_iC (ev_penAt (i := 0) rfl (ev_iC (ev_iC (ev_var (i := 2) rfl) (ev_int) (by first | exact .inl ⟨by decide, by decide⟩ | exact .inr ⟨by decide, by decide⟩ | exact .inl ⟨by omega, by omega⟩ | exact .inr ⟨by omega, by omega⟩)) (ev_penLen (i := 0) rfl) (by exact of_decide_eq_true hb2)) (by exact emod_bd _ (of_decide_eq_true hb2))) (ev_int) (by first | decide | (show (0 : Int) < _; omega))) (ev_iC (ev_int) (ev_var (i := 2) rfl) (by first | exact .inl ⟨by decide, by decide⟩ | exact .inr ⟨by decide, by decide⟩ | exact .inl ⟨by omega, by omega⟩ | exact .inr ⟨by omega, by omega⟩))) rfl fun cell2 h_cell2 => ?_
              refine q_next ?_
              exact at_mid (.k (.k (.k (.k (.d (.d (.d (.d .n)))))))) (by have e : cell2 = cellM pen.l pen.p := (by subst_vars; unfold cellM; rw [if_neg (by rw [hb1]; decide), if_pos hb2]); rw [e])
            ·
              refine q_next ?_
              exact at_mid (.k (.k (.k (.k (.d (.d (.d (.d .n)))))))) (by have e : cell = cellM pen.l pen.p := (by subst_vars; unfold cellM; rw [if_neg (by rw [hb1]; decide), if_neg (by rw [hb2]; decide)]); rw [e])
          refine at_gen 3 rfl fun cell3 h_cell3 => ?_
          refine q_next ?_
          exact at_mid (.k (.k (.k (.k (.d (.d (.d (.d .n)))))))) (by rw [h_cell3])
      refine at_gen 3 rfl fun cell4 h_cell4 => ?_
      refine qg_set 4 (ev_iC (ev_iC (ev_i0 (ev_i0 (ev_iC (ev_var (i := 3) rfl) (ev_int) (by first | decide | (show (0 : Int) < _; omega))) (ev_iC (ev_int) (ev_var (i := 2) rfl) (by first | exact .inl ⟨by decide, by decide⟩ | exact .inr ⟨by decide, by decide⟩ | exact .inl ⟨by omega, by omega⟩ | exact .inr ⟨by omega, by omega⟩))) (ev_int)) (ev_int) (by first | exact .inl ⟨by decide, by decide⟩ | exact .inr ⟨by decide, by decide⟩ | exact .inl ⟨by omega, by omega⟩ | exact .inr ⟨by omega, by omega⟩)) (ev_int) (by first | decide | (show (0 : Int) < _; omega))) rfl fun one h_one => ?_
      have bone : 0 ≤ one ∧ one < 2147483647 := by rw [h_one]; exact emod_bd _ (by decide)
      refine qg_set 5 (ev_iC (ev_i0 (ev_i0 (ev_iC (ev_var (i := 4) rfl) (ev_var (i := 4) rfl) (by first | exact .inl ⟨by decide, by decide⟩ | exact .inr ⟨by decide, by decide⟩ | exact .inl ⟨by omega, by omega⟩ | exact .inr ⟨by omega, by omega⟩)) (ev_iC (ev_int) (ev_var (i := 2) rfl) (by first | exact .inl ⟨by decide, by decide⟩ | exact .inr ⟨by decide, by decide⟩ | exact .inl ⟨by omega, by omega⟩ | exact .inr ⟨by omega, by omega⟩))) (ev_int)) (ev_int) (by first | decide | (show (0 : Int) < _; omega))) rfl fun two h_two => ?_
      have btwo : 0 ≤ two ∧ two < 998244353 := by rw [h_two]; exact emod_bd _ (by decide)
      refine qg_set 6 (ev_iC (ev_i0 (ev_iC (ev_var (i := 5) rfl) (ev_var (i := 5) rfl) (by first | exact .inl ⟨by decide, by decide⟩ | exact .inr ⟨by decide, by decide⟩ | exact .inl ⟨by omega, by omega⟩ | exact .inr ⟨by omega, by omega⟩)) (ev_var (i := 4) rfl)) (ev_int) (by first | decide | (show (0 : Int) < _; omega))) rfl fun three h_three => ?_
      refine q_pen2 (i := 0) (ev_i0 (ev_iC (ev_i0 (ev_iC (ev_var (i := 5) rfl) (ev_int) (by first | exact .inl ⟨by decide, by decide⟩ | exact .inr ⟨by decide, by decide⟩ | exact .inl ⟨by omega, by omega⟩ | exact .inr ⟨by omega, by omega⟩)) (ev_var (i := 6) rfl)) (ev_int) (by first | exact ⟨by decide, by decide⟩ | exact ⟨by omega, by omega⟩)) (ev_int)) rfl ?_
      refine at_genO 0 rfl fun pen2 h_pen2 => ?_
      show At _ _ _ _ [.ow pen2, .im many, .im at_, .im cell4, .im one, .im two, .im three, .no]
      refine q_cutI (fun st_ : Pen => [.ow st_, .im many, .im at_, .im cell4, .im one, .im two, .im three, .no]) (fun st => st = Pen.mk pen.a pen.q pen.l (pen.p + 1) (drawM cell4 pen.p)) ?_ (fun sI3 hI_3 => ?_)
      · refine q_ifc (et_test (ev_b0 (ev_var (i := 3) rfl) (ev_iC (ev_int) (ev_int) (by exact ⟨by decide, by decide, by decide⟩)))) (fun hb3 => ?_) (fun hb3 => ?_)
        ·
          refine q_pen2 (i := 0) (ev_iC (ev_var (i := 3) rfl) (ev_iC (ev_int) (ev_int) (by exact ⟨by decide, by decide, by decide⟩)) (by exact ⟨by decide, by decide⟩)) rfl ?_
          refine at_genO 0 rfl fun pen3 h_pen3 => ?_
          show At _ _ _ _ [.ow pen3, .im many, .im at_, .im cell4, .im one, .im two, .im three, .no]
          refine q_next ?_
          exact at_mid (.k (.k (.k (.k (.k (.k (.k (.d .n)))))))) ⟨pen3, rfl, by subst_vars; unfold drawM; rw [if_pos hb3]⟩
        ·
          refine q_next ?_
          exact at_mid (.k (.k (.k (.k (.k (.k (.k (.d .n)))))))) ⟨pen2, rfl, by subst_vars; unfold drawM twoM oneM; rw [if_neg (by rw [hb3]; decide)]⟩
      ·
        show At _ _ _ _ [.ow sI3, .im many, .im at_, .im cell4, .im one, .im two, .im three, .no]
        refine q_next ?_
        exact at_mid (.k (.k (.d (.d (.d (.d (.d (.d .n)))))))) ⟨sI3, rfl, by unfold fillM; rw [if_pos hb0, hI_3, h_cell4]⟩
    ·
      refine q_next ?_
      exact at_mid (.k (.k (.d (.d (.d (.d (.d (.d .n)))))))) ⟨pen, rfl, by unfold fillM; rw [if_neg (by rw [hb0]; decide)]⟩
  ·
    show At _ _ _ _ [.ow sI0, .im many, .no, .no, .no, .no, .no, .no]
    refine qg_set 7 (ev_iC (ev_pen2 (i := 0) rfl) (ev_var (i := 1) rfl) (by first | decide | (show (0 : Int) < _; omega))) rfl fun found h_found => ?_
    refine q_pen2 (i := 0) (ev_iC (ev_pen2 (i := 0) rfl) (ev_var (i := 1) rfl) (by first | exact ⟨by decide, by decide⟩ | exact ⟨by omega, by omega⟩)) rfl ?_
    refine at_genO 0 rfl fun pen6 h_pen6 => ?_
    show At _ _ _ _ [.ow pen6, .im many, .no, .no, .no, .no, .no, .im found]
    exact q_ret (ev_var (i := 7) rfl) (hret _ _ _ rfl (by rw [h_found, h_pen6, hI_0]; unfold penTake; rfl))
end
theorem sc__law_row : FnScope ["pen", "n", "w", "many", "takes", "way", "p"] ["pen", "n", "w", "many", "takes"] (defScope s__law_row) := ⟨rfl, rfl, rfl, by decide +kernel, rfl, by decide +kernel, by decide +kernel⟩
section
variable {P : Program} {w : World} {K : Fg} {mg : Str → Option Value} {base : Heap}
set_option maxHeartbeats 4000000 in
theorem ok__law_row {C : Addr} {Y : XC → Addr} (T : Tx K mg C Y) (c__law_take : Cal P w K mg base 1 "_law_take" ["pen", "many"] (spM K (fun (z : Pen) (a : Int × Unit) => penTake z a.1) (fun z a => 0 < a.1 ∧ a.1 < 1073741824))) : Cal P w K mg base 2 "_law_row" ["pen", "n", "w", "many", "takes"] (spM K (fun (z : Pen) (a : Int × Int × Int × Bool × Unit) => rowM z a.1 a.2.1 a.2.2.1 a.2.2.2.1) (fun z a => (0 < a.1 ∧ a.1 < 1000) ∧ (0 < a.2.1 ∧ a.2.1 < 1000) ∧ 0 < a.2.2.1 ∧ a.2.2.1 < 1000)) := by
  have nd := sc__law_row.nd
  refine def_spM (k := 1) T.d__law_row sc__law_row rfl (fun z a _ => row_fp z a.1 a.2.1 a.2.2.1 a.2.2.2.1) fun fa cdv A outer s H E hr => ?_
  refine ⟨_, pss_cons (ps_set (i := 5) nd rfl (.inl rfl) (pe_cal c__law_take hr (by decide) (by rfl) (pa_cons (pv 0) (pa_cons (pe_int) pa_nil))))
      (pss_cons (ps_set (i := 6) nd rfl (.inl rfl) (pe_cal c__law_take hr (by decide) (by rfl) (pa_cons (pv 0) (pa_cons (pv 1) pa_nil))))
      (pss_cons (ps_if (pt_cmpR op_lt (pv 5) (pe_int) (nomark _)) (pss_cons (ps_ret (pe_tup (pa_cons (pe_str) (pa_cons (pv 6) (pa_cons (pe_cal c__law_take hr (by decide) (by rfl) (pa_cons (pv 0) (pa_cons (pv 2) pa_nil))) pa_nil)))))
      (pss_nil)) (pss_nil))
      (pss_cons (ps_if (pt_cmpR op_lt (pv 5) (pe_int) (nomark _)) (pss_cons (ps_ret (pe_tup (pa_cons (pe_str) (pa_cons (pv 6) (pa_cons (pe_cal c__law_take hr (by decide) (by rfl) (pa_cons (pv 0) (pa_cons (pv 1) pa_nil))) pa_nil)))))
      (pss_nil)) (pss_nil))
      (pss_cons (ps_if (pt_cmpR op_lt (pv 5) (pe_int) (nomark _)) (pss_cons (ps_ret (pe_tup (pa_cons (pe_str) (pa_cons (pv 6) (pa_cons (pe_cal c__law_take hr (by decide) (by rfl) (pa_cons (pv 0) (pa_cons (pv 3) pa_nil))) pa_nil)))))
      (pss_nil)) (pss_nil))
      (pss_cons (ps_if (pt_cmpR op_lt (pv 5) (pe_int) (nomark _)) (pss_cons (ps_ret (pe_tup (pa_cons (pe_str) (pa_cons (pv 6) pa_nil))))
      (pss_nil)) (pss_nil))
      (pss_cons (ps_if (PW.pt (pw_and (pt_cmpR op_lt (pv 5) (pe_int) (nomark _)) (pw_and1 (pt_val (pv 4))))) (pss_cons (ps_ret (pe_tup (pa_cons (pe_str) (pa_cons (pv 6) pa_nil))))
      (pss_nil)) (pss_nil))
      (pss_cons (ps_if (pt_cmpR op_lt (pv 5) (pe_int) (nomark _)) (pss_cons (ps_ret (pe_tup (pa_cons (pe_str) (pa_cons (pv 6) (pa_cons (pv 6) pa_nil)))))
      (pss_nil)) (pss_nil))
      (pss_cons (ps_ret (pe_ix (r := rIxL K) ix_list (pe_lst (pa_cons (pe_tup (pa_cons (pe_str) pa_nil)) (pa_cons (pe_tup (pa_cons (pe_str) (pa_cons (pv 6) (pa_cons (pe_cal c__law_take hr (by decide) (by rfl) (pa_cons (pv 0) (pa_cons (pv 3) pa_nil))) pa_nil)))) (pa_cons (pe_tup (pa_cons (pe_str) (pa_cons (pv 6) pa_nil))) pa_nil)))) (pe_cal c__law_take hr (by decide) (by rfl) (pa_cons (pv 0) (pa_cons (pe_int) pa_nil))) (fun _ _ => rfl)))
      (pss_nil))))))))), ?_⟩
  rintro pen ⟨n, w, many, takes, _⟩ hpre B S0 Q hret
  show At _ _ _ _ [.ow pen, .im n, .im w, .im many, .im takes, .no, .no]
  obtain ⟨⟨n0, n1⟩, ⟨w0, w1⟩, m0, m1⟩ := hpre
  dsimp only at n0 n1 w0 w1 m0 m1
  refine qg_set 5 (ev_callM (i := 0) rfl (ea_cons (ev_int) (ea_nil)) rfl (by refine ⟨?_, ?_⟩ <;> first | decide | omega | (dsimp only; omega))) rfl fun way h_way => ?_
  refine at_genO 0 rfl fun pen1 h_pen1 => ?_
  have bd_way := pen_fact h_pen1 (by first | decide | omega | (dsimp only; omega))
  (try rw [← h_way] at bd_way); (try dsimp only at bd_way)
  show At _ _ _ _ [.ow pen1, .im n, .im w, .im many, .im takes, .im way, .no]
  refine qg_set 6 (ev_callM (i := 0) rfl (ea_cons (ev_var (i := 1) rfl) (ea_nil)) rfl (by refine ⟨?_, ?_⟩ <;> first | decide | omega | (dsimp only; omega))) rfl fun p h_p => ?_
  refine at_genO 0 rfl fun pen2 h_pen2 => ?_
  have bd_p := pen_fact h_pen2 (by first | decide | omega | (dsimp only; omega))
  (try rw [← h_p] at bd_p); (try dsimp only at bd_p)
  show At _ _ _ _ [.ow pen2, .im n, .im w, .im many, .im takes, .im way, .im p]
  refine q_if (et_test (ev_b0 (ev_var (i := 5) rfl) (ev_int))) (fun hb0 => ?_) (fun hb0 => ?_)
  ·
    exact q_ret (ev_mkrow2 (.set _ _) (ev_var (i := 6) rfl) (ev_callM (i := 0) rfl (ea_cons (ev_var (i := 2) rfl) (ea_nil)) rfl (by refine ⟨?_, ?_⟩ <;> first | decide | omega | (dsimp only; omega))) rfl) (hret _ _ _ rfl (by subst_vars; unfold rowM; dsimp only at *; rw [if_pos hb0]))
  ·
    refine q_next ?_
    refine q_if (et_test (ev_b0 (ev_var (i := 5) rfl) (ev_int))) (fun hb1 => ?_) (fun hb1 => ?_)
    ·
      exact q_ret (ev_mkrow2 (.add _ _) (ev_var (i := 6) rfl) (ev_callM (i := 0) rfl (ea_cons (ev_var (i := 1) rfl) (ea_nil)) rfl (by refine ⟨?_, ?_⟩ <;> first | decide | omega | (dsimp only; omega))) rfl) (hret _ _ _ rfl (by subst_vars; unfold rowM; dsimp only at *; rw [if_neg (by rw [hb0]; decide), if_pos hb1]))
    ·
      refine q_next ?_
      refine q_if (et_test (ev_b0 (ev_var (i := 5) rfl) (ev_int))) (fun hb2 => ?_) (fun hb2 => ?_)
      ·
        exact q_ret (ev_mkrow2 (.jump _ _) (ev_var (i := 6) rfl) (ev_callM (i := 0) rfl (ea_cons (ev_var (i := 3) rfl) (ea_nil)) rfl (by refine ⟨?_, ?_⟩ <;> first | decide | omega | (dsimp only; omega))) rfl) (hret _ _ _ rfl (by subst_vars; unfold rowM; dsimp only at *; rw [if_neg (by rw [hb0]; decide), if_neg (by rw [hb1]; decide), if_pos hb2]))
      ·
        refine q_next ?_
        refine q_if (et_test (ev_b0 (ev_var (i := 5) rfl) (ev_int))) (fun hb3 => ?_) (fun hb3 => ?_)
        ·
          exact q_ret (ev_mkrow1 (.say _) (ev_var (i := 6) rfl) rfl) (hret _ _ _ rfl (by subst_vars; unfold rowM; dsimp only at *; rw [if_neg (by rw [hb0]; decide), if_neg (by rw [hb1]; decide), if_neg (by rw [hb2]; decide), if_pos hb3]))
        ·
          refine q_next ?_
          refine q_if (et_and (et_test (ev_b0 (ev_var (i := 5) rfl) (ev_int))) (fun hc => et_B (ev_var (i := 4) rfl))) (fun hb4 => ?_) (fun hb4 => ?_)
          ·
            exact q_ret (ev_mkrow1 (.take _) (ev_var (i := 6) rfl) rfl) (hret _ _ _ rfl (by subst_vars; unfold rowM; dsimp only at *; rw [if_neg (by rw [hb0]; decide), if_neg (by rw [hb1]; decide), if_neg (by rw [hb2]; decide), if_neg (by rw [hb3]; decide), if_pos hb4]))
          ·
            refine q_next ?_
            refine q_if (et_test (ev_b0 (ev_var (i := 5) rfl) (ev_int))) (fun hb5 => ?_) (fun hb5 => ?_)
            ·
              exact q_ret (ev_mkrow2 (.add _ _) (ev_var (i := 6) rfl) (ev_var (i := 6) rfl) rfl) (hret _ _ _ rfl (by subst_vars; unfold rowM; dsimp only at *; rw [if_neg (by rw [hb0]; decide), if_neg (by rw [hb1]; decide), if_neg (by rw [hb2]; decide), if_neg (by rw [hb3]; decide), if_neg (by rw [hb4]; decide), if_pos hb5]))
            ·
              refine q_next ?_
              exact q_ret (ev_ix (EvL.ev (el_lst (els_cons (ev_mkrow0 (.fin) rfl) (els_cons (ev_mkrow2 (.jump _ _) (ev_var (i := 6) rfl) (ev_callM (i := 0) rfl (ea_cons (ev_var (i := 3) rfl) (ea_nil)) rfl (by refine ⟨?_, ?_⟩ <;> first | decide | omega | (dsimp only; omega))) rfl) (els_cons (ev_mkrow1 (.say _) (ev_var (i := 6) rfl) rfl) (els_nil)))) (by simp))) (ev_callM (i := 0) rfl (ea_cons (ev_int) (ea_nil)) rfl (by refine ⟨?_, ?_⟩ <;> first | decide | omega | (dsimp only; omega))) (by exact pen_bd _ (by decide))) (hret _ _ _ rfl (by subst_vars; unfold rowM; dsimp only at *; rw [if_neg (by rw [hb0]; decide), if_neg (by rw [hb1]; decide), if_neg (by rw [hb2]; decide), if_neg (by rw [hb3]; decide), if_neg (by rw [hb4]; decide), if_neg (by rw [hb5]; decide)]))
end
theorem sc__law_sheets : FnScope ["pen", "program", "p"] ["pen", "program"] (defScope s__law_sheets) := ⟨rfl, rfl, rfl, by decide +kernel, rfl, by decide +kernel, by decide +kernel⟩
section
variable {P : Program} {w : World} {K : Fg} {mg : Str → Option Value} {base : Heap}
set_option maxHeartbeats 4000000 in
theorem ok__law_sheets {C : Addr} {Y : XC → Addr} (T : Tx K mg C Y) (c__law_take : Cal P w K mg base 1 "_law_take" ["pen", "many"] (spM K (fun (z : Pen) (a : Int × Unit) => penTake z a.1) (fun z a => 0 < a.1 ∧ a.1 < 1073741824))) : Cal P w K mg base 2 "_law_sheets" ["pen", "program"] (spM K (fun (z : Pen) (a : (T3 Int Int (Tp WRow)) × Unit) => sheetsM z a.1) (fun z a => (0 ≤ a.1.a ∧ a.1.a ≤ 1000) ∧ 0 < a.1.b ∧ a.1.b < 1000)) := by
  have nd := sc__law_sheets.nd
  refine def_spM (k := 1) T.d__law_sheets sc__law_sheets rfl (fun z a _ => sheets_fp z a.1) fun fa cdv A outer s H E hr => ?_
  refine ⟨_, pss_cons (ps_ret (pe_callTy call_tupG (by rfl) T.n_tuple (by decide +kernel) (pa_cons (pe_lc (own := [("p", 2)]) (g := gName 2) (by rfl) nd (pi_range1 (by rfl) T.n_range (pa_cons (pe_ix (r := rIxT K) ix_tup (pv 1) pe_int (fun _ _ => rfl)) pa_nil)) (blkOk_by (N := ["pen", "program", "p"]) (sc := defScope s__law_sheets) (by decide +kernel)) (fun _ _ _ _ _ => pg_name (i := 2) nd rfl (.inl rfl) (.inr rfl)) (fun _ _ _ _ _ => pts_nil) (fun _ _ _ _ _ => pe_cal c__law_take hr (by decide) (by rfl) (pa_cons (pv 0) (pa_cons (pe_ix (r := rIxL K) ix_list (pe_lst (pa_cons (pe_ix (r := rIxT K) ix_tup (pv 1) pe_int (fun _ _ => rfl)) (pa_cons (pe_int) pa_nil))) (pe_callTy call_intG (by rfl) T.n_int (by decide +kernel) (pa_cons (pe_cmpR op_eq (pe_cal c__law_take hr (by decide) (by rfl) (pa_cons (pv 0) (pa_cons (pe_int) pa_nil))) (pe_int) (nomark _)) pa_nil)) (fun _ _ => rfl)) pa_nil)))) pa_nil)))
      (pss_nil), ?_⟩
  rintro pen ⟨program, _⟩ hpre B S0 Q hret
  show At _ _ _ _ [.ow pen, .im program, .no]
  obtain ⟨⟨n0, n1⟩, w0, w1⟩ := hpre
  dsimp only at n0 n1 w0 w1
  exact q_ret (ev_tup (EvL.c (el_lcE (fun st_ : Pen => [.ow st_, .im program, .no]) _ (fun st_ x => shStep program.b st_ x) (fun st_ x => shE program.b st_ x) (it_rng1 (ev_3a (ev_var (i := 1) rfl)) (by first | omega | (dsimp only; omega))) (by first | omega | (dsimp only; omega) | (rw [len_rng]; omega) | (rw [len_rng]; exact le_line (by omega))) (fun x st_ hm_x => ⟨_, _, tg_name rfl, (by decide), _, ev_callM (i := 0) rfl (ea_cons (ev_ix (EvL.ev (el_lst (els_cons (ev_3b (ev_var (i := 1) rfl)) (els_cons (ev_int) (els_nil))) (by simp))) (ev_intB (ev_eq (ev_callM (i := 0) rfl (ea_cons (ev_int) (ea_nil)) rfl (by refine ⟨?_, ?_⟩ <;> first | decide | omega | (dsimp only; omega))) (ev_int))) (by show 0 ≤ _ ∧ _ < (2 : Int); split <;> decide)) (ea_nil)) rfl (by have := sh_pos (b := decide ((penTake st_ 3).1 = 0)) w0; exact ⟨this.1, by have := this.2; dsimp only; omega⟩), .a (by decide) (.b rfl (.b rfl (.n)))⟩)))) (hret _ _ _ rfl (by unfold sheetsM; rfl))
end
theorem sc__law_program : FnScope ["pen", "takes", "n", "w", "many", "k"] ["pen", "takes"] (defScope s__law_program) := ⟨rfl, rfl, rfl, by decide +kernel, rfl, by decide +kernel, by decide +kernel⟩
section
variable {P : Program} {w : World} {K : Fg} {mg : Str → Option Value} {base : Heap}
set_option maxHeartbeats 4000000 in
theorem ok__law_program {C : Addr} {Y : XC → Addr} (T : Tx K mg C Y) (c__law_row : Cal P w K mg base 2 "_law_row" ["pen", "n", "w", "many", "takes"] (spM K (fun (z : Pen) (a : Int × Int × Int × Bool × Unit) => rowM z a.1 a.2.1 a.2.2.1 a.2.2.2.1) (fun z a => (0 < a.1 ∧ a.1 < 1000) ∧ (0 < a.2.1 ∧ a.2.1 < 1000) ∧ 0 < a.2.2.1 ∧ a.2.2.1 < 1000))) (c__law_take : Cal P w K mg base 1 "_law_take" ["pen", "many"] (spM K (fun (z : Pen) (a : Int × Unit) => penTake z a.1) (fun z a => 0 < a.1 ∧ a.1 < 1073741824))) : Cal P w K mg base 3 "_law_program" ["pen", "takes"] (spRP K (fun (a : Bool × Unit) (y : (T3 Int Int (Tp WRow))) => ProgOk y ∧ ∀ r ∈ y.c.l, RowT a.1 r) (fun a => True)) := by
  have nd := sc__law_program.nd
  refine def_spRP (k := 2) T.d__law_program sc__law_program rfl fun fa cdv A outer s H E hr => ?_
  refine ⟨_, pss_cons (ps_set (i := 2) nd rfl (.inr rfl) (pe_op op_add (pe_int) (pe_cal c__law_take hr (by decide) (by rfl) (pa_cons (pv 0) (pa_cons (pe_ix (r := rIxL K) ix_list (pe_lst (pa_cons (pe_int) (pa_cons (pe_int) pa_nil))) (pe_cal c__law_take hr (by decide) (by rfl) (pa_cons (pv 0) (pa_cons (pe_int) pa_nil))) (fun _ _ => rfl)) pa_nil)))))
      (pss_cons (ps_set (i := 3) nd rfl (.inr rfl) (pe_ix (r := rIxL K) ix_list (pe_lst (pa_cons (pe_int) (pa_cons (pe_int) (pa_cons (pe_int) (pa_cons (pe_int) (pa_cons (pe_op op_add (pe_int) (pe_cal c__law_take hr (by decide) (by rfl) (pa_cons (pv 0) (pa_cons (pe_int) pa_nil)))) pa_nil)))))) (pe_cal c__law_take hr (by decide) (by rfl) (pa_cons (pv 0) (pa_cons (pe_int) pa_nil))) (fun _ _ => rfl)))
      (pss_cons (ps_set (i := 4) nd rfl (.inr rfl) (pe_op op_add (pe_int) (pe_cal c__law_take hr (by decide) (by rfl) (pa_cons (pv 0) (pa_cons (pe_ix (r := rIxL K) ix_list (pe_lst (pa_cons (pe_int) (pa_cons (pe_int) (pa_cons (pe_int) pa_nil)))) (pe_cal c__law_take hr (by decide) (by rfl) (pa_cons (pv 0) (pa_cons (pe_int) pa_nil))) (fun _ _ => rfl)) pa_nil)))))
      (pss_cons (ps_ret (pe_tup (pa_cons (pv 2) (pa_cons (pv 3) (pa_cons (pe_callTy call_tupG (by rfl) T.n_tuple (by decide +kernel) (pa_cons (pe_lc (own := [("k", 5)]) (g := gName 5) (by rfl) nd (pi_range1 (by rfl) T.n_range (pa_cons (pv 4) pa_nil)) (blkOk_by (N := ["pen", "takes", "n", "w", "many", "k"]) (sc := defScope s__law_program) (by decide +kernel)) (fun _ _ _ _ _ => pg_name (i := 5) nd rfl (.inl rfl) (.inr rfl)) (fun _ _ _ _ _ => pts_nil) (fun _ _ _ _ _ => pe_cal c__law_row hr (by decide) (by rfl) (pa_cons (pv 0) (pa_cons (pv 2) (pa_cons (pv 3) (pa_cons (pv 4) (pa_cons (pv 1) pa_nil))))))) pa_nil)) pa_nil)))))
      (pss_nil)))), ?_⟩
  rintro pen ⟨takes, _⟩ hpre B S0 Q hret
  show At _ _ _ _ [.ow pen, .im takes, .no, .no, .no, .no]
  refine qg_set 2 (ev_i0 (ev_int) (ev_callM (i := 0) rfl (ea_cons (ev_ix (EvL.ev (el_lst (els_cons (ev_int) (els_cons (ev_int) (els_nil))) (by simp))) (ev_callM (i := 0) rfl (ea_cons (ev_int) (ea_nil)) rfl (by refine ⟨?_, ?_⟩ <;> first | decide | omega | (dsimp only; omega))) (by exact pen_bd _ (by decide))) (ea_nil)) rfl (by exact pick2 (fun v => 0 < v ∧ v < 1073741824) (pen_bd _ (by decide)) (by decide) (by decide)))) rfl fun n h_n => ?_
  refine at_genO 0 rfl fun pen1 h_pen1 => ?_
  show At _ _ _ _ [.ow pen1, .im takes, .im n, .no, .no, .no]
  have hn : 1 ≤ n ∧ n ≤ 12 := by rw [h_n]; exact dr_n pen
  refine qg_set 3 (ev_ix (EvL.ev (el_lst (els_cons (ev_int) (els_cons (ev_int) (els_cons (ev_int) (els_cons (ev_int) (els_cons (ev_i0 (ev_int) (ev_callM (i := 0) rfl (ea_cons (ev_int) (ea_nil)) rfl (by refine ⟨?_, ?_⟩ <;> first | decide | omega | (dsimp only; omega)))) (els_nil)))))) (by simp))) (ev_callM (i := 0) rfl (ea_cons (ev_int) (ea_nil)) rfl (by refine ⟨?_, ?_⟩ <;> first | decide | omega | (dsimp only; omega))) (by exact pen_bd _ (by decide))) rfl fun w h_w => ?_
  refine at_genO 0 rfl fun pen2 h_pen2 => ?_
  show At _ _ _ _ [.ow pen2, .im takes, .im n, .im w, .no, .no]
  have hw : 2 ≤ w ∧ w ≤ 100 := by
    rw [h_w]
    have := pen_bd pen1 (m := 99) (by decide)
    exact pick5 (fun v => 2 ≤ v ∧ v ≤ 100) (pen_bd _ (by decide)) (by decide) (by decide) (by decide) (by decide) (by dsimp only; omega)
  refine qg_set 4 (ev_i0 (ev_int) (ev_callM (i := 0) rfl (ea_cons (ev_ix (EvL.ev (el_lst (els_cons (ev_int) (els_cons (ev_int) (els_cons (ev_int) (els_nil)))) (by simp))) (ev_callM (i := 0) rfl (ea_cons (ev_int) (ea_nil)) rfl (by refine ⟨?_, ?_⟩ <;> first | decide | omega | (dsimp only; omega))) (by exact pen_bd _ (by decide))) (ea_nil)) rfl (by exact pick3 (fun v => 0 < v ∧ v < 1073741824) (pen_bd _ (by decide)) (by decide) (by decide) (by decide)))) rfl fun many h_many => ?_
  refine at_genO 0 rfl fun pen3 h_pen3 => ?_
  show At _ _ _ _ [.ow pen3, .im takes, .im n, .im w, .im many, .no]
  have hm : 1 ≤ many ∧ many ≤ 20 := by rw [h_many]; exact dr_m pen2
  exact q_ret (ev_t3 (ev_var (i := 2) rfl) (ev_var (i := 3) rfl) (ev_tup (EvL.c (el_lcE (fun st_ : Pen => [.ow st_, .im takes, .im n, .im w, .im many, .no]) _ (fun st_ x => (rowM st_ n w many takes).2) (fun st_ x => (rowM st_ n w many takes).1) (it_rng1 (ev_var (i := 4) rfl) (by first | omega | (dsimp only; omega))) (by first | omega | (dsimp only; omega) | (rw [len_rng]; omega) | (rw [len_rng]; exact le_line (by omega))) (fun x st_ hm_x => ⟨_, _, tg_name rfl, (by decide), _, ev_callM (i := 0) rfl (ea_cons (ev_var (i := 2) rfl) (ea_cons (ev_var (i := 3) rfl) (ea_cons (ev_var (i := 4) rfl) (ea_cons (ev_var (i := 1) rfl) (ea_nil))))) rfl (by exact ⟨⟨by dsimp only; omega, by dsimp only; omega⟩, ⟨by dsimp only; omega, by dsimp only; omega⟩, by dsimp only; omega, by dsimp only; omega⟩), .a (by decide) (.b rfl (.b rfl (.b rfl (.b rfl (.b rfl (.n))))))⟩))))) (hret _ _ _ rfl (by rw [prog_fp]; simp only [h_pen3, h_pen2, h_pen1, pen_fp]) (by exact prog_ok hn hw hm))
end
theorem sc__law_stand : FnScope ["pen", "program", "at"] ["pen", "program"] (defScope s__law_stand) := ⟨rfl, rfl, rfl, by decide +kernel, rfl, by decide +kernel, by decide +kernel⟩
section
variable {P : Program} {w : World} {K : Fg} {mg : Str → Option Value} {base : Heap}
set_option maxHeartbeats 4000000 in
theorem ok__law_stand {C : Addr} {Y : XC → Addr} (T : Tx K mg C Y) (c__law_sheets : Cal P w K mg base 2 "_law_sheets" ["pen", "program"] (spM K (fun (z : Pen) (a : (T3 Int Int (Tp WRow)) × Unit) => sheetsM z a.1) (fun z a => (0 ≤ a.1.a ∧ a.1.a ≤ 1000) ∧ 0 < a.1.b ∧ a.1.b < 1000))) (c__law_take : Cal P w K mg base 1 "_law_take" ["pen", "many"] (spM K (fun (z : Pen) (a : Int × Unit) => penTake z a.1) (fun z a => 0 < a.1 ∧ a.1 < 1073741824))) : Cal P w K mg base 3 "_law_stand" ["pen", "program"] (spRP K (fun (a : (T3 Int Int (Tp WRow)) × Unit) (y : (Int × (Tp Int))) => StandOk a.1 y) (fun a => ProgOk a.1)) := by
  have nd := sc__law_stand.nd
  refine def_spRP (k := 2) T.d__law_stand sc__law_stand rfl fun fa cdv A outer s H E hr => ?_
  refine ⟨_, pss_cons (ps_set (i := 2) nd rfl (.inl rfl) (pe_op op_mul (pe_cal c__law_take hr (by decide) (by rfl) (pa_cons (pv 0) (pa_cons (pe_op op_add (pe_callB call_lenG (by rfl) T.n_len (by decide +kernel) (pa_cons (pe_ix (r := rIxT K) ix_tup (pv 1) pe_int (fun _ _ => rfl)) pa_nil)) (pe_int)) pa_nil))) (pe_callTy call_intG (by rfl) T.n_int (by decide +kernel) (pa_cons (pe_cmpR op_eq (pe_cal c__law_take hr (by decide) (by rfl) (pa_cons (pv 0) (pa_cons (pe_int) pa_nil))) (pe_int) (nomark _)) pa_nil))))
      (pss_cons (ps_ret (pe_tup (pa_cons (pv 2) (pa_cons (pe_cal c__law_sheets hr (by decide) (by rfl) (pa_cons (pv 0) (pa_cons (pv 1) pa_nil))) pa_nil))))
      (pss_nil)), ?_⟩
  rintro pen ⟨program, _⟩ hpre B S0 Q hret
  show At _ _ _ _ [.ow pen, .im program, .no]
  have gk := hpre
  dsimp only at gk
  have hg0 := gk.n0
  have hg1 := gk.n1
  have hw0 := gk.w0
  have hw1 := gk.w1
  have hm0 := gk.m0
  have hm1 := gk.m1
  refine qg_set 2 (ev_iC (ev_callM (i := 0) rfl (ea_cons (ev_i0 (ev_lenT (ev_3c (ev_var (i := 1) rfl))) (ev_int)) (ea_nil)) rfl (by refine ⟨?_, ?_⟩ <;> first | decide | omega | (dsimp only; omega))) (ev_intB (ev_eq (ev_callM (i := 0) rfl (ea_cons (ev_int) (ea_nil)) rfl (by refine ⟨?_, ?_⟩ <;> first | decide | omega | (dsimp only; omega))) (ev_int))) (by first | exact .inl ⟨by decide, by decide⟩ | exact .inr ⟨by decide, by decide⟩ | exact .inl ⟨by omega, by omega⟩ | exact .inr ⟨by omega, by omega⟩)) rfl fun at_ h_at_ => ?_
  refine at_genO 0 rfl fun pen1 h_pen1 => ?_
  show At _ _ _ _ [.ow pen1, .im program, .im at_]
  have hat : 0 ≤ at_ ∧ at_ ≤ (program.c.l.length : Int) := by
    rw [h_at_]
    have h1 := pen_bd pen (m := (program.c.l.length : Int) + 1) (by omega)
    have h2 := mul01 (x := (penTake pen ((program.c.l.length : Int) + 1)).1) (b := decide ((penTake (penTake pen ((program.c.l.length : Int) + 1)).2 3).1 = 0)) h1.1
    exact ⟨h2.1, Int.le_trans h2.2 (by omega)⟩
  exact q_ret (ev_pair (ev_var (i := 2) rfl) (ev_callM (i := 0) rfl (ea_cons (ev_var (i := 1) rfl) (ea_nil)) rfl (by exact ⟨⟨by dsimp only; omega, by dsimp only; omega⟩, by dsimp only; omega, by dsimp only; omega⟩))) (hret _ _ _ rfl (by rw [sheets_fp]; simp only [h_pen1, pen_fp]) (by obtain ⟨q1, q2⟩ := sheets_ok (z := pen1) (g := program) (by omega) (by omega); exact ⟨hat.1, hat.2, q1, q2⟩))
end
theorem sc__law_order : FnScope ["pen", "n", "left", "k"] ["pen", "n"] (defScope s__law_order) := ⟨rfl, rfl, rfl, by decide +kernel, rfl, by decide +kernel, by decide +kernel⟩
section
variable {P : Program} {w : World} {K : Fg} {mg : Str → Option Value} {base : Heap}
set_option maxHeartbeats 4000000 in
theorem ok__law_order {C : Addr} {Y : XC → Addr} (T : Tx K mg C Y) (c__law_take : Cal P w K mg base 1 "_law_take" ["pen", "many"] (spM K (fun (z : Pen) (a : Int × Unit) => penTake z a.1) (fun z a => 0 < a.1 ∧ a.1 < 1073741824))) : Cal P w K mg base 2 "_law_order" ["pen", "n"] (spRP K (fun (a : Int × Unit) (y : (List Int)) => y.Perm (rng 0 a.1)) (fun a => 1 ≤ a.1 ∧ a.1 ≤ 1000)) := by
  have nd := sc__law_order.nd
  refine def_spRP (k := 1) T.d__law_order sc__law_order rfl fun fa cdv A outer s H E hr => ?_
  refine ⟨_, pss_cons (ps_set (i := 2) nd rfl (.inr rfl) (pe_listRg rfl (by rfl) T.n_list (prg_1 (by rfl) T.n_range (pv 1))))
      (pss_cons (ps_ret (pe_lc (own := [("k", 3)]) (g := gName 3) (by rfl) nd (pi_range1 (by rfl) T.n_range (pa_cons (pv 1) pa_nil)) (blkOk_by (N := ["pen", "n", "left", "k"]) (sc := defScope s__law_order) (by decide +kernel)) (fun _ _ _ _ _ => pg_name (i := 3) nd rfl (.inl rfl) (.inr rfl)) (fun _ _ _ _ _ => pts_nil) (fun _ _ _ _ _ => pe_bmK (K := K) (r := rPopAt) rfl PySem.F.plainAttrs_list PySem.F.slot_list_pop PySem.F.type_list_pop mt_popAt (pv 2) (pa_cons (pe_cal c__law_take hr (by decide) (by rfl) (pa_cons (pv 0) (pa_cons (pe_callB (r := rLenS K) call_lenG (by rfl) T.n_len (by decide +kernel) (pa_cons (pv 2) pa_nil)) pa_nil))) pa_nil))))
      (pss_nil)), ?_⟩
  rintro pen ⟨n, _⟩ hpre B S0 Q hret
  show At _ _ _ _ [.ow pen, .im n, .no, .no]
  obtain ⟨n0, n1⟩ := hpre
  dsimp only at n0 n1
  refine qg_own 2 (el_rng1 (ev_var (i := 1) rfl) (by exact ⟨by omega, by omega, by omega, by omega, by omega⟩)) rfl fun left h_left => ?_
  exact q_ret (EvL.ev (el_lcP (fun st_ : Pen × (List Int) => [.ow st_.1, .im n, .ow st_.2, .no]) (pen, left) orStep orE (it_rng1 (ev_var (i := 1) rfl) (by first | omega | (dsimp only; omega))) (by first | omega | (dsimp only; omega) | (rw [len_rng]; omega) | (rw [len_rng]; exact le_line (by omega))) (fun pre_ x post_ hx_ st_ hst_ => have hfo := or_fold pre_ (pen, rng 0 n) (by rw [← hx_]; simp); have hlp : pre_.length < (rng 0 n).length := (by rw [← hx_]; simp); have hll : 0 < st_.2.length := (by rw [hst_, h_left, hfo.1]; dsimp only; omega); have hlm : st_.2.length ≤ 1000 := (by rw [hst_, h_left, hfo.1]; dsimp only; rw [len_rng]; omega); ⟨_, _, tg_name rfl, (by decide), _, ev_popAt (i := 2) rfl (ev_callM (i := 0) rfl (ea_cons (ev_len (ec_own (i := 2) rfl)) (ea_nil)) rfl (by refine ⟨?_, ?_⟩ <;> first | decide | omega | (dsimp only; omega))) rfl (by exact pen_bd _ (by omega)) (by omega), .a (by decide) (.b rfl (.a (by decide) (.b rfl (.n))))⟩))) (hret _ _ _ rfl (by rw [mapX_snd, h_left]; exact (or_fold _ _ (Nat.le_refl _)).2) (by rw [h_left]; have := order_perm pen n; unfold orderM at this; exact this))
end
theorem sc_lacking : FnScope ["reads", "here", "sheet"] ["reads", "here"] (defScope s_lacking) := ⟨rfl, rfl, rfl, by decide +kernel, rfl, by decide +kernel, by decide +kernel⟩
section
variable {P : Program} {w : World} {K : Fg} {mg : Str → Option Value} {base : Heap}
set_option maxHeartbeats 4000000 in
theorem ok_lacking {C : Addr} {Y : XC → Addr} (T : Tx K mg C Y)  : Cal P w K mg base 1 "lacking" ["reads", "here"] (spF K (fun a : (Tp Int) × (Dct Bool) × Unit => lackQ a.1.l a.2.1) (fun a => a.1.l.length ≤ 1000)) := by
  have nd := sc_lacking.nd
  refine def_spF (k := 0) T.d_lacking sc_lacking rfl fun fa cdv A outer s H E hr => ?_
  refine ⟨_, pss_cons (ps_ret (pe_lc (own := [("sheet", 2)]) (g := gName 2) (by rfl) nd (pi_tup (pv 0)) (blkOk_by (N := ["reads", "here", "sheet"]) (sc := defScope s_lacking) (by decide +kernel)) (fun _ _ _ _ _ => pg_name (i := 2) nd rfl (.inl rfl) (.inr rfl)) (fun _ _ _ _ _ => pts_one (pt_cmp (pc_dnotin (hu_of hr) (pv 2) (pv 1)))) (fun _ _ _ _ _ => pv 2)))
      (pss_nil), ?_⟩
  rintro ⟨reads, here, _⟩ hpre B S0 Q hret
  show At _ _ _ _ [.im reads, .im here, .no]
  have l0 := hpre
  dsimp only at l0
  exact q_ret (EvL.ev (el_lcF _ _ (it_tup (ev_var (i := 0) rfl)) (by first | omega | (dsimp only; omega) | (rw [len_rng]; omega) | (rw [len_rng]; exact le_line (by omega))) rfl (fun x hm_x => ⟨_, _, tg_name rfl, (by decide), et_B (ev_dnotin (ev_var (i := 2) rfl) (EvX.d (ev_var (i := 1) rfl))), fun hf_x => ev_var (i := 2) rfl⟩))) (hret _ _ (by dsimp only; rw [List.map_id']; rfl))
end
theorem sc_next_of : FnScope ["order", "here", "sheet"] ["order", "here"] (defScope s_next_of) := ⟨rfl, rfl, rfl, by decide +kernel, rfl, by decide +kernel, by decide +kernel⟩
section
variable {P : Program} {w : World} {K : Fg} {mg : Str → Option Value} {base : Heap}
set_option maxHeartbeats 4000000 in
theorem ok_next_of {C : Addr} {Y : XC → Addr} (T : Tx K mg C Y)  : Cal P w K mg base 1 "next_of" ["order", "here"] (spF K (fun a : (List Int) × (Dct Bool) × Unit => nextM a.1 a.2.1) (fun a => True)) := by
  have nd := sc_next_of.nd
  refine def_spF (k := 0) T.d_next_of sc_next_of rfl fun fa cdv A outer s H E hr => ?_
  refine ⟨_, pss_cons (ps_for PassesOwn.never rfl (pi_list (pv 0)) (pg_name (i := 2) nd rfl (.inl rfl))
      (pss_cons (ps_if (pt_cmp (pc_dnotin (hu_of hr) (pv 2) (pv 1))) (pss_cons (ps_ret (pv 2))
      (pss_nil)) (pss_nil))
      (pss_nil)))
      (pss_cons (ps_ret (pe_non))
      (pss_nil)), ?_⟩
  rintro ⟨order, here, _⟩ hpre B S0 Q hret
  show At _ _ _ _ [.im order, .im here, .no]
  refine qg_inv (fun st_ : Unit => [.im order, .im here, .no]) (fun pre (_ : Unit) => ∀ y ∈ pre, (here.get? y).isSome = true) () (it_list (ev_var (i := 0) rfl)) (.k (.k (.d .n))) (fun y hy => nomatch hy) (fun pre0 sheet post0 s0 ex0 hs0 Sb0 rb0 => ⟨_, _, tg_name rfl, ?_⟩) (fun s0 hs0 => ?_)
  ·
    show At _ _ _ _ [.im order, .im here, .im sheet]
    refine q_if (et_B (ev_dnotin (ev_var (i := 2) rfl) (EvX.d (ev_var (i := 1) rfl)))) (fun hb0 => ?_) (fun hb0 => ?_)
    ·
      exact q_ret (EvX.some (ev_var (i := 2) rfl)) ((hret _ _ (by unfold nextM; dsimp only; rw [← ex0]; exact (find_at hs0 (by simpa using hb0)).symm)).reb rb0)
    ·
      refine q_next ?_
      exact q_next (at_mid (.k (.k (.d .n))) ⟨(), by rfl, by exact all_snoc hs0 (by simpa using hb0)⟩)
  ·
    show At _ _ _ _ [.im order, .im here, .no]
    exact q_ret (ev_none (α := Int)) (hret _ _ (by unfold nextM; dsimp only; exact (find_no hs0).symm))
end
theorem sc_gone_by : FnScope ["some", "order", "asks", "here", "done", "now", "reads", "writes", "coming", "sheet", "lost"] ["some", "order", "asks"] (defScope s_gone_by) := ⟨rfl, rfl, rfl, by decide +kernel, rfl, by decide +kernel, by decide +kernel⟩
section
variable {P : Program} {w : World} {K : Fg} {mg : Str → Option Value} {base : Heap}
set_option maxHeartbeats 4000000 in
theorem ok_gone_by {C : Addr} {Y : XC → Addr} (T : Tx K mg C Y) (c_lacking : Cal P w K mg base 1 "lacking" ["reads", "here"] (spF K (fun a : (Tp Int) × (Dct Bool) × Unit => lackQ a.1.l a.2.1) (fun a => a.1.l.length ≤ 1000))) (c_next_of : Cal P w K mg base 1 "next_of" ["order", "here"] (spF K (fun a : (List Int) × (Dct Bool) × Unit => nextM a.1 a.2.1) (fun a => True))) : Cal P w K mg base 2 "gone_by" ["some", "order", "asks"] (spN K (fun a : (List ((Tp Int) × (Tp Int))) × (List Int) × Bool × Unit => playG a.1 a.2.1 a.2.2.1) (fun a => (∃ n, n ≤ 1000 ∧ TchOk n a.1 ∧ ∀ x, 0 ≤ x → x < n → x ∈ a.2.1) ∧ (∀ x ∈ a.2.1, 0 ≤ x ∧ x < 1000) ∧ a.2.1.length ≤ 1000 ∧ a.1.length ≤ 10000)) := by
  have nd := sc_gone_by.nd
  refine def_spN (k := 1) T.d_gone_by sc_gone_by rfl fun fa cdv A outer s H E hr => ?_
  refine ⟨_, pss_cons (ps_set (i := 3) nd rfl (.inl rfl) pe_dnewK)
      (pss_cons (ps_set (i := 4) nd rfl (.inl rfl) (pe_lst (pa_nil)))
      (pss_cons (ps_set (i := 5) nd rfl (.inl rfl) (pe_int))
      (pss_cons (ps_for PassesOwn.never rfl (pi_list (pv 0)) (pg_tup rfl (pgs_cons (pg_name (i := 6) nd rfl (.inl rfl)) (pgs_cons (pg_name (i := 7) nd rfl (.inl rfl)) (pgs_nil))))
      (pss_cons (ps_while PassesOwn.never (pt_cmpR (op_neD hr.units) (pe_cal c_lacking hr (by decide) (by rfl) (pa_cons (pv 6) (pa_cons (pv 3) pa_nil))) (pe_lst (pa_nil)) (nomark _))
      (pss_cons (ps_set (i := 8) nd rfl (.inl rfl) (pe_ifExp (pt_val (pv 2)) (pe_ix (r := rIxL K) ix_list (pe_cal c_lacking hr (by decide) (by rfl) (pa_cons (pv 6) (pa_cons (pv 3) pa_nil))) (pe_int) (fun _ _ => rfl)) (pe_cal c_next_of hr (by decide) (by rfl) (pa_cons (pv 1) (pa_cons (pv 3) pa_nil)))))
      (pss_cons (ps_dput (hu_of hr) (pv 3) (pv 8) (pe_bl) rfl)
      (pss_cons (ps_set (i := 5) nd rfl (.inl rfl) (pe_op op_add (pv 5) (pe_int)))
      (pss_nil)))))
      (pss_cons (ps_expr (pe_bm PySem.F.plainAttrs_list PySem.F.slot_list_append PySem.F.type_list_append mt_append (pv 4) (pa_cons (pv 5) pa_nil)))
      (pss_cons (ps_for PassesOwn.never rfl (pi_tup (pv 7)) (pg_name (i := 9) nd rfl (.inl rfl))
      (pss_cons (ps_dput (hu_of hr) (pv 3) (pv 9) (pe_bl) rfl)
      (pss_nil)))
      (pss_cons (ps_set (i := 8) nd rfl (.inl rfl) (pe_cal c_next_of hr (by decide) (by rfl) (pa_cons (pv 1) (pa_cons (pv 3) pa_nil))))
      (Evl.pss_cut (ps_if (pt_cmp (pc_notN (pv 8))) (pss_cons (ps_dput (hu_of hr) (pv 3) (pv 8) (pe_bl) rfl)
      (pss_nil)) (pss_nil))
      (pss_cons (ps_set (i := 5) nd rfl (.inl rfl) (pe_op op_add (pv 5) (pe_int)))
      (pss_nil))))))))
      (pss_cons (ps_set (i := 10) nd rfl (.inl rfl) (pe_int))
      (Evl.pss_cut (ps_if (pt_cmpR (op_neD hr.units) (pv 4) (pe_lst (pa_nil)) (nomark _)) (pss_cons (ps_set (i := 10) nd rfl (.inl rfl) (pe_op op_add (pe_op op_sub (pe_ix (r := rIxL K) ix_list (pv 4) (pe_un un_neg (pe_int)) (fun _ _ => rfl)) (pe_callB call_lenG (by rfl) T.n_len (by decide +kernel) (pa_cons (pv 4) pa_nil))) (pe_int)))
      (pss_nil)) (pss_nil))
      (pss_cons (ps_ret (pe_tup (pa_cons (pv 4) (pa_cons (pv 10) pa_nil))))
      (pss_nil))))))), ?_⟩
  rintro ⟨some, order, asks, _⟩ hpre B S0 Q hret
  show At _ _ _ _ [.im some, .im order, .im asks, .no, .no, .no, .no, .no, .no, .no, .no]
  obtain ⟨⟨n, n1, tk, hcov⟩, hord, o0, l0⟩ := hpre
  dsimp only at tk hcov hord o0 l0
  refine q_dnew Bool (i := 3) rfl ?_
  refine at_genO 3 rfl fun here h_here => ?_
  refine qg_own 4 (el_lst (els_nil (α := Int)) (by simp)) rfl fun done h_done => ?_
  refine qg_set 5 (ev_int) rfl fun now h_now => ?_
  show At _ _ _ _ [.im some, .im order, .im asks, .ow here, .ow done, .im now, .no, .no, .no, .no, .no]
  refine qg_inv (fun st_ : (Dct Bool) × (List Int) × Int => [.im some, .im order, .im asks, .ow st_.1, .ow st_.2.1, .im st_.2.2, .no, .no, .no, .no, .no]) (fun pre st => GnI order asks pre st) (here, done, now) (it_list (ev_var (i := 0) rfl)) (.k (.k (.k (.k (.k (.k (.d (.d (.d (.d (.d .n))))))))))) (by rw [h_here, h_done, h_now]; exact GnI.start order asks) (fun pre0 it post0 s0 ex0 hs0 Sb0 rb0 => ⟨_, _, tg_pair (tg_name rfl) (tg_name rfl), ?_⟩) (fun s0 hs0 => ?_)
  ·
    obtain ⟨here_b, done_b, now_b⟩ := s0
    show At _ _ _ _ [.im some, .im order, .im asks, .ow here_b, .ow done_b, .im now_b, .im it.1, .im it.2, .no, .no, .no]
    obtain ⟨came0, wr0, hst, hH, hOk, hnl, hdl, hla⟩ := hs0
    dsimp only at hst hH hOk hnl hdl hla
    have hpe := mem_cut3 ex0
    obtain ⟨hok, _⟩ := pl_ok (asks := asks) n1 hcov hord pre0 (Dct.emp, Dct.emp, [], 0) (fun p hp => tk p (hpe p (List.mem_append_left _ hp))) ⟨⟨fun x c e => (nomatch e), Dct.Ok.emp⟩, Dct.Ok.emp⟩
    rw [hst] at hok
    obtain ⟨hco, hwo⟩ := hok
    dsimp only at hco hwo
    have hpl : pre0.length < some.length := by rw [← ex0]; simp
    have hri := tk it (hpe it (by simp))
    have hr1 := hri.1.len9
    have hor : ∀ x ∈ it.1.l, x ∈ order := fun x hx => hcov x (hri.1.bd x hx).1 (hri.1.bd x hx).2
    refine qg_whI (fun st_ : (Dct Bool) × Int => [.im some, .im order, .im asks, .ow st_.1, .ow done_b, .im st_.2, .im it.1, .im it.2, .no, .no, .no]) (fun st => !decide (lackQ it.1.l st.1 = [])) (here_b, now_b) (GbI it.1.l order wr0 asks (goM it.1.l order wr0 asks (order.length + 1) (came0, now_b))) (fun st => (lackQ order st.1).length) (.k (.k (.k (.k (.k (.k (.k (.k (.d (.d (.d .n))))))))))) (by exact ⟨came0, hH, hOk, rfl, hco, _, rfl, Nat.lt_succ_of_le (List.length_filter_le _ _)⟩) (fun s1 hI1 => ?_) (fun s1 hI1 hc1 Sb1 rb1 => ?_) (fun s1 hI1 hc1 Sb1 rb1 => ?_)
    ·
      obtain ⟨here_c, now_c⟩ := s1
      show EvT _ _ [.im some, .im order, .im asks, .ow here_c, .ow done_b, .im now_c, .im it.1, .im it.2, .no, .no, .no] _ [.im some, .im order, .im asks, .ow here_c, .ow done_b, .im now_c, .im it.1, .im it.2, .no, .no, .no]
      exact et_test (ev_neD (ev_callB (i := 3) rfl (vv_cons (i := 6) rfl (vv_cons (i := 3) rfl (vv_nil))) (by show it.1.l.length ≤ 1000; omega)) (EvL.ev (el_lst (els_nil (α := Int)) (by simp))) (by decide))
    ·
      obtain ⟨here_b1, now_b1⟩ := s1
      show At _ _ _ _ [.im some, .im order, .im asks, .ow here_b1, .ow done_b, .im now_b1, .im it.1, .im it.2, .no, .no, .no]
      have hne : lackQ it.1.l here_b1 ≠ [] := by simpa using hc1
      obtain ⟨hsm, hbd, hnx, hmu⟩ := hI1.next hor hord hne
      have hlp : 0 < (lackQ it.1.l here_b1).length := List.length_pos_iff.mpr hne
      obtain ⟨_, _, hok1, _⟩ := hI1
      dsimp only at hok1
      refine qg_set 8 (ev_if (et_B (ev_var (i := 2) rfl)) (fun hc => EvX.some (ev_ix (ev_callB (i := 3) rfl (vv_cons (i := 6) rfl (vv_cons (i := 3) rfl (vv_nil))) (by show it.1.l.length ≤ 1000; omega)) (ev_int) (by exact ⟨Int.le_refl _, by dsimp only; omega⟩))) (fun hc => ev_callB (i := 3) rfl (vv_cons (i := 1) rfl (vv_cons (i := 3) rfl (vv_nil))) (by trivial))) rfl fun coming h_coming => ?_
      have hcm : coming.getD default = (comM it.1.l order here_b1 asks).getD default := by rw [h_coming]; rfl
      have hcs : coming.isSome = true := by rw [h_coming]; exact hsm
      refine qg_dput 3 (ev_bl) (EvX.get (α := Int) (ev_var (i := 8) rfl) (by exact hcs)) rfl rfl (by exact hok1.small) fun here1 h_here1 => ?_
      refine qg_set 5 (ev_i0 (ev_var (i := 5) rfl) (ev_int)) rfl fun now1 h_now1 => ?_
      refine q_next (at_mid (.k (.k (.k (.k (.k (.k (.k (.k (.d (.d (.d .n))))))))))) ⟨(here1, now1), by rfl, ?_, ?_⟩)
      · rw [h_now1, h_here1, hcm]
        exact hnx
      · show (lackQ order here1).length < (lackQ order here_b1).length
        rw [h_here1, hcm]
        exact hmu
    ·
      obtain ⟨here_e, now_e⟩ := s1
      show At _ _ _ _ [.im some, .im order, .im asks, .ow here_e, .ow done_b, .im now_e, .im it.1, .im it.2, .no, .no, .no]
      have hl0 : lackQ it.1.l here_e = [] := by simpa using hc1
      obtain ⟨hX1, hX2, hX3, hOk2⟩ := hI1.stop hl0
      show At _ _ _ _ [.im some, .im order, .im asks, .ow here_e, .ow done_b, .im now_e, .im it.1, .im it.2, .no, .no, .no]
      refine qg_app 4 rfl (ev_var (i := 5) rfl) rfl (by exact lt_line (by omega)) fun done1 h_done1 => ?_
      refine qg_fold (fun st_ : (Dct Bool) => [.im some, .im order, .im asks, .ow st_, .ow done1, .im now_e, .im it.1, .im it.2, .no, .no, .no]) (fun f x => f.put x true) here_e (it_tup (ev_var (i := 7) rfl)) (.k (.k (.k (.k (.k (.k (.k (.k (.d (.d (.d .n))))))))))) (fun pre2 sheet post2 s2 ex2 hs2 Sb2 rb2 => ⟨_, _, tg_name rfl, ?_⟩) (fun s2 hs2 => ?_)
      ·
        show At _ _ _ _ [.im some, .im order, .im asks, .ow s2, .ow done1, .im now_e, .im it.1, .im it.2, .no, .im sheet, .no]
        have hwo2 : (wrD here_e pre2).Ok 1000 := wrD_ok n1 hOk2 fun x hx => hri.2.bd x (by rw [← ex2]; exact List.mem_append_left _ hx)
        unfold wrD at hwo2
        rw [← hs2] at hwo2
        refine qg_dput 3 (ev_bl) (ev_var (i := 9) rfl) rfl rfl (by exact hwo2.small) fun here2 h_here2 => ?_
        exact q_next (at_mid (.k (.k (.k (.k (.k (.k (.k (.k (.d (.d (.d .n))))))))))) (by subst_vars; rfl))
      ·
        show At _ _ _ _ [.im some, .im order, .im asks, .ow s2, .ow done1, .im now_e, .im it.1, .im it.2, .no, .no, .no]
        have hwo3 : s2.Ok 1000 := by rw [hs2]; exact wrD_ok n1 hOk2 hri.2.bd
        have hH3 : HereR s2 (wrD wr0 it.2.l) (goM it.1.l order wr0 asks (order.length + 1) (came0, now_b)).1 := by rw [hs2]; exact hX1.wr it.2.l
        refine qg_set 8 (ev_callB (i := 3) rfl (vv_cons (i := 1) rfl (vv_cons (i := 3) rfl (vv_nil))) (by trivial)) rfl fun coming1 h_coming1 => ?_
        refine q_cutI (fun st_ : (Dct Bool) => [.im some, .im order, .im asks, .ow st_, .ow done1, .im now_e, .im it.1, .im it.2, .im coming1, .no, .no]) (fun h => GnI order asks (pre0 ++ [it]) (h, done_b ++ [(goM it.1.l order wr0 asks (order.length + 1) (came0, now_b)).2], (goM it.1.l order wr0 asks (order.length + 1) (came0, now_b)).2 + 1)) ?_ (fun sI0 hI_0 => ?_)
        · refine q_ifc (et_B (ev_notN (by exact nn_int) (ev_var (i := 8) rfl))) (fun hb0 => ?_) (fun hb0 => ?_)
          ·
            refine qg_dput 3 (ev_bl) (EvX.get (α := Int) (ev_var (i := 8) rfl) (by exact hb0)) rfl rfl (by exact hwo3.small) fun here3 h_here3 => ?_
            refine q_next ?_
            exact at_mid (.k (.k (.k (.k (.k (.k (.k (.k (.k (.d (.d .n))))))))))) ⟨here3, rfl, by exact GnI.step hst hnl hdl hH3 (by rw [h_here3, h_coming1]; rw [h_coming1] at hb0; exact put_next hb0) (by rw [h_here3]; exact hwo3.put _ (by rw [h_coming1] at hb0 ⊢; exact next_bd hord hb0))⟩
          ·
            refine q_next ?_
            exact at_mid (.k (.k (.k (.k (.k (.k (.k (.k (.k (.d (.d .n))))))))))) ⟨s2, rfl, by exact GnI.step hst hnl hdl hH3 (by rw [h_coming1] at hb0; exact no_next hb0) hwo3⟩
        ·
          show At _ _ _ _ [.im some, .im order, .im asks, .ow sI0, .ow done1, .im now_e, .im it.1, .im it.2, .im coming1, .no, .no]
          show At _ _ _ _ [.im some, .im order, .im asks, .ow sI0, .ow done1, .im now_e, .im it.1, .im it.2, .im coming1, .no, .no]
          refine qg_set 5 (ev_i0 (ev_var (i := 5) rfl) (ev_int)) rfl fun now2 h_now2 => ?_
          exact At.reb rb1 (q_next (at_mid (.k (.k (.k (.k (.k (.k (.d (.d (.d (.d (.d .n))))))))))) ⟨(sI0, done1, now2), by rfl, by rw [h_done1, h_now2, ← hX2]; exact hI_0⟩))
  ·
    obtain ⟨here_e1, done_e, now_e1⟩ := s0
    show At _ _ _ _ [.im some, .im order, .im asks, .ow here_e1, .ow done_e, .im now_e1, .no, .no, .no, .no, .no]
    refine at_relF (i := 4) rfl ?_
    refine qg_set 10 (ev_int) rfl fun lost h_lost => ?_
    refine q_cut1 [.im some, .im order, .im asks, .ow here_e1, .im (Fx.mk B done_e), .im now_e1, .no, .no, .no, .no, .im (if done_e = [] then 0 else lastI done_e - (done_e.length : Int) + 1)] ?_ ?_
    · refine q_ifc (et_test (ev_neD (EvX.unF (ev_var (i := 4) rfl)) (EvL.ev (el_lst (els_nil (α := Int)) (by simp))) (by decide))) (fun hb1 => ?_) (fun hb1 => ?_)
      ·
        refine qg_set 10 (ev_i0 (ev_i0 (ev_last (EvX.unF (ev_var (i := 4) rfl)) (ev_neg (ev_int)) (by exact List.length_pos_iff.mpr (by simpa using hb1))) (ev_len (EvX.c (EvX.unF (ev_var (i := 4) rfl))))) (ev_int)) rfl fun lost1 h_lost1 => ?_
        refine q_next ?_
        exact at_mid (.k (.k (.k (.k (.k (.k (.d (.d (.d (.d (.k .n))))))))))) (by rw [if_neg (by simpa using hb1), h_lost1])
      ·
        refine q_next ?_
        exact at_mid (.k (.k (.k (.k (.k (.k (.d (.d (.d (.d (.k .n))))))))))) (by rw [if_pos (by simpa using hb1), h_lost])
    refine at_gen 10 rfl fun lost2 h_lost2 => ?_
    exact q_ret (ev_pairF (ev_var (i := 4) rfl) (EvX.toF B (ev_var (i := 10) rfl))) (hret _ _ (by rw [h_lost2, hs0.end]))
end
theorem sc_fetched : FnScope ["n", "touches", "order"] ["n", "touches", "order"] (defScope s_fetched) := ⟨rfl, rfl, rfl, by decide +kernel, rfl, by decide +kernel, by decide +kernel⟩
section
variable {P : Program} {w : World} {K : Fg} {mg : Str → Option Value} {base : Heap}
set_option maxHeartbeats 4000000 in
theorem ok_fetched {C : Addr} {Y : XC → Addr} (T : Tx K mg C Y) (c_gone_by : Cal P w K mg base 2 "gone_by" ["some", "order", "asks"] (spN K (fun a : (List ((Tp Int) × (Tp Int))) × (List Int) × Bool × Unit => playG a.1 a.2.1 a.2.2.1) (fun a => (∃ n, n ≤ 1000 ∧ TchOk n a.1 ∧ ∀ x, 0 ≤ x → x < n → x ∈ a.2.1) ∧ (∀ x ∈ a.2.1, 0 ≤ x ∧ x < 1000) ∧ a.2.1.length ≤ 1000 ∧ a.1.length ≤ 10000))) : Cal P w K mg base 3 "fetched" ["n", "touches", "order"] (spN K (fun a : Int × (List ((Tp Int) × (Tp Int))) × (List Int) × Unit => playG a.2.1 a.2.2.1 false) (fun a => (∃ n, n ≤ 1000 ∧ TchOk n a.2.1 ∧ ∀ x, 0 ≤ x → x < n → x ∈ a.2.2.1) ∧ (∀ x ∈ a.2.2.1, 0 ≤ x ∧ x < 1000) ∧ a.2.2.1.length ≤ 1000 ∧ a.2.1.length ≤ 10000)) := by
  have nd := sc_fetched.nd
  refine def_spN (k := 2) T.d_fetched sc_fetched rfl fun fa cdv A outer s H E hr => ?_
  refine ⟨_, pss_cons (ps_ret (pe_cal c_gone_by hr (by decide) (by rfl) (pa_cons (pv 1) (pa_cons (pv 2) (pa_cons (pe_bl) pa_nil)))))
      (pss_nil), ?_⟩
  rintro ⟨n, touches, order, _⟩ hpre B S0 Q hret
  show At _ _ _ _ [.im n, .im touches, .im order]
  refine q_retN (ea_cons (ev_var (i := 1) rfl) (ea_cons (ev_var (i := 2) rfl) (ea_cons (ev_bl) (ea_nil)))) (by exact hpre) (fun y_ hy_ => hret _ _ (by rw [hy_]; skip))
end
theorem sc_asked_for : FnScope ["n", "touches", "order"] ["n", "touches", "order"] (defScope s_asked_for) := ⟨rfl, rfl, rfl, by decide +kernel, rfl, by decide +kernel, by decide +kernel⟩
section
variable {P : Program} {w : World} {K : Fg} {mg : Str → Option Value} {base : Heap}
set_option maxHeartbeats 4000000 in
theorem ok_asked_for {C : Addr} {Y : XC → Addr} (T : Tx K mg C Y) (c_gone_by : Cal P w K mg base 2 "gone_by" ["some", "order", "asks"] (spN K (fun a : (List ((Tp Int) × (Tp Int))) × (List Int) × Bool × Unit => playG a.1 a.2.1 a.2.2.1) (fun a => (∃ n, n ≤ 1000 ∧ TchOk n a.1 ∧ ∀ x, 0 ≤ x → x < n → x ∈ a.2.1) ∧ (∀ x ∈ a.2.1, 0 ≤ x ∧ x < 1000) ∧ a.2.1.length ≤ 1000 ∧ a.1.length ≤ 10000))) : Cal P w K mg base 3 "asked_for" ["n", "touches", "order"] (spN K (fun a : Int × (List ((Tp Int) × (Tp Int))) × (List Int) × Unit => playG a.2.1 a.2.2.1 true) (fun a => (∃ n, n ≤ 1000 ∧ TchOk n a.2.1 ∧ ∀ x, 0 ≤ x → x < n → x ∈ a.2.2.1) ∧ (∀ x ∈ a.2.2.1, 0 ≤ x ∧ x < 1000) ∧ a.2.2.1.length ≤ 1000 ∧ a.2.1.length ≤ 10000)) := by
  have nd := sc_asked_for.nd
  refine def_spN (k := 2) T.d_asked_for sc_asked_for rfl fun fa cdv A outer s H E hr => ?_
  refine ⟨_, pss_cons (ps_ret (pe_cal c_gone_by hr (by decide) (by rfl) (pa_cons (pv 1) (pa_cons (pv 2) (pa_cons (pe_bl) pa_nil)))))
      (pss_nil), ?_⟩
  rintro ⟨n, touches, order, _⟩ hpre B S0 Q hret
  show At _ _ _ _ [.im n, .im touches, .im order]
  refine q_retN (ea_cons (ev_var (i := 1) rfl) (ea_cons (ev_var (i := 2) rfl) (ea_cons (ev_bl) (ea_nil)))) (by exact hpre) (fun y_ hy_ => hret _ _ (by rw [hy_]; skip))
end
theorem sc_least_lost : FnScope ["n", "touches", "needed", "written", "lost", "shows", "number", "reads", "writes", "sheet"] ["n", "touches"] (defScope s_least_lost) := ⟨rfl, rfl, rfl, by decide +kernel, rfl, by decide +kernel, by decide +kernel⟩
section
variable {P : Program} {w : World} {K : Fg} {mg : Str → Option Value} {base : Heap}
set_option maxHeartbeats 4000000 in
theorem ok_least_lost {C : Addr} {Y : XC → Addr} (T : Tx K mg C Y)  : Cal P w K mg base 1 "least_lost" ["n", "touches"] (spN K (fun a : Int × (List ((Tp Int) × (Tp Int))) × Unit => llM a.1 a.2.1) (fun a => 0 ≤ a.1 ∧ a.1 ≤ 1000 ∧ a.2.1.length ≤ 500 ∧ TchOk a.1 a.2.1)) := by
  have nd := sc_least_lost.nd
  refine def_spN (k := 0) T.d_least_lost sc_least_lost rfl fun fa cdv A outer s H E hr => ?_
  refine ⟨_, pss_cons (ps_set (i := 2) nd rfl (.inr rfl) (pe_lst (pa_nil)))
      (pss_cons (ps_set (i := 3) nd rfl (.inr rfl) pe_dnewK)
      (pss_cons (ps_set (i := 4) nd rfl (.inl rfl) (pe_int))
      (pss_cons (ps_set (i := 5) nd rfl (.inl rfl) (pe_non))
      (pss_cons (ps_for PassesOwn.never rfl (pi_enum (by rfl) T.n_enumerate (pa_cons (pv 1) pa_nil)) (pg_tup rfl (pgs_cons (pg_name (i := 6) nd rfl (.inl rfl)) (pgs_cons (pg_tup rfl (pgs_cons (pg_name (i := 7) nd rfl (.inl rfl)) (pgs_cons (pg_name (i := 8) nd rfl (.inl rfl)) (pgs_nil)))) (pgs_nil))))
      (pss_cons (ps_expr (pe_bm PySem.F.plainAttrs_list PySem.F.slot_list_extend PySem.F.type_list_extend mt_extend (pv 2) (pa_cons (pe_lc (own := [("sheet", 9)]) (g := gName 9) (by rfl) nd (pi_tup (pv 7)) (blkOk_by (N := ["n", "touches", "needed", "written", "lost", "shows", "number", "reads", "writes", "sheet"]) (sc := defScope s_least_lost) (by decide +kernel)) (fun _ _ _ _ _ => pg_name (i := 9) nd rfl (.inl rfl) (.inr rfl)) (fun _ _ _ _ _ => pts_one (PW.pt (pw_and (pt_cmpR (r := rIn K true) op_notIn_seq (pv 9) (pv 2) (by rfl)) (pw_and1 (pt_cmp (pc_dnotin (hu_of hr) (pv 9) (pv 3))))))) (fun _ _ _ _ _ => pv 9)) pa_nil)))
      (pss_cons (ps_for PassesOwn.never rfl (pi_tup (pv 8)) (pg_name (i := 9) nd rfl (.inl rfl))
      (pss_cons (ps_dput (hu_of hr) (pv 3) (pv 9) (pe_bl) rfl)
      (pss_nil)))
      (Evl.pss_cut (ps_if (pt_cmpR op_gt (pe_op op_sub (pe_callB call_lenG (by rfl) T.n_len (by decide +kernel) (pa_cons (pv 2) pa_nil)) (pv 6)) (pv 4) (nomark _)) (pss_cons (ps_set (i := 4) nd rfl (.inl rfl) (pe_op op_sub (pe_callB call_lenG (by rfl) T.n_len (by decide +kernel) (pa_cons (pv 2) pa_nil)) (pv 6)))
      (pss_cons (ps_set (i := 5) nd rfl (.inl rfl) (pv 6))
      (pss_nil))) (pss_nil))
      (pss_nil)))))
      (pss_cons (ps_ret (pe_tup (pa_cons (pe_op op_cat (pv 2) (pe_lc (own := [("sheet", 9)]) (g := gName 9) (by rfl) nd (pi_range1 (by rfl) T.n_range (pa_cons (pv 0) pa_nil)) (blkOk_by (N := ["n", "touches", "needed", "written", "lost", "shows", "number", "reads", "writes", "sheet"]) (sc := defScope s_least_lost) (by decide +kernel)) (fun _ _ _ _ _ => pg_name (i := 9) nd rfl (.inl rfl) (.inr rfl)) (fun _ _ _ _ _ => pts_one (pt_cmpR (r := rIn K true) op_notIn_seq (pv 9) (pv 2) (by rfl))) (fun _ _ _ _ _ => pv 9))) (pa_cons (pv 4) (pa_cons (pv 5) pa_nil)))))
      (pss_nil)))))), ?_⟩
  rintro ⟨n, touches, _⟩ hpre B S0 Q hret
  show At _ _ _ _ [.im n, .im touches, .no, .no, .no, .no, .no, .no, .no, .no]
  obtain ⟨n0, n1, l0, tk⟩ := hpre
  dsimp only at n0 n1 l0 tk
  refine qg_own 2 (el_lst (els_nil (α := Int)) (by simp)) rfl fun needed h_needed => ?_
  refine q_dnew Bool (i := 3) rfl ?_
  refine at_genO 3 rfl fun written h_written => ?_
  refine qg_set 4 (ev_int) rfl fun lost h_lost => ?_
  show At _ _ _ _ [.im n, .im touches, .ow needed, .ow written, .im lost, .no, .no, .no, .no, .no]
  refine qg_set 5 (ev_none (α := Int)) rfl fun shows h_shows => ?_
  refine qg_fold (fun st_ : (List Int) × (Dct Bool) × Int × (Option Int) => [.im n, .im touches, .ow st_.1, .ow st_.2.1, .im st_.2.2.1, .im st_.2.2.2, .no, .no, .no, .no]) llStep (needed, written, lost, shows) (it_enum (ev_var (i := 1) rfl)) (.k (.k (.k (.k (.k (.k (.d (.d (.d (.d .n)))))))))) (fun pre0 it post0 s0 ex0 hs0 Sb0 rb0 => ⟨_, _, tg_pair (tg_name rfl) (tg_pair (tg_name rfl) (tg_name rfl)), ?_⟩) (fun s0 hs0 => ?_)
  ·
    obtain ⟨needed_b, written_b, lost_b, shows_b⟩ := s0
    show At _ _ _ _ [.im n, .im touches, .ow needed_b, .ow written_b, .im lost_b, .im shows_b, .im it.1, .im it.2.1, .im it.2.2, .no]
    have hpe : ∀ p ∈ pre0 ++ [it], p ∈ enumI touches := mem_cut3 ex0
    have hro := enum_tch tk hpe
    obtain ⟨hw, hl⟩ := ll_ok n1 pre0 (needed, written, lost, shows) (fun p hp => hro p (List.mem_append_left _ hp)) (by rw [h_written]; exact Dct.Ok.emp)
    rw [← hs0] at hw hl
    dsimp only at hw hl
    have hpl : pre0.length < touches.length := by have e9 := congrArg List.length ex0; rw [len_enumI, List.length_append, List.length_cons] at e9; omega
    have hri := hro it (List.mem_append_right _ (by simp))
    have hr1 := hri.1.len9
    have hne : needed.length = 0 := by rw [h_needed]; rfl
    refine qg_ext 2 rfl (EvL.c (el_lcF _ _ (it_tup (ev_var (i := 7) rfl)) (by first | omega | (rw [len_rng]; omega)) rfl (fun x hm_x => ⟨_, _, tg_name rfl, (by decide), et_and (et_test (ev_ninL (ev_var (i := 9) rfl) (ec_own (i := 2) rfl))) (fun hc => et_B (ev_dnotin (ev_var (i := 9) rfl) (ed_own (i := 3) rfl))), fun hf_x => ev_var (i := 9) rfl⟩))) rfl (by exact le_line (by rw [List.map_id']; have := List.length_filter_le (fun x => !decide (x ∈ needed_b) && !(written_b.get? x).isSome) it.2.1.l; omega)) fun needed1 h_needed1 => ?_
    refine qg_fold (fun st_ : (Dct Bool) => [.im n, .im touches, .ow needed1, .ow st_, .im lost_b, .im shows_b, .im it.1, .im it.2.1, .im it.2.2, .no]) (fun f x => f.put x true) written_b (it_tup (ev_var (i := 8) rfl)) (.k (.k (.k (.k (.k (.k (.k (.k (.k (.d .n)))))))))) (fun pre1 sheet post1 s1 ex1 hs1 Sb1 rb1 => ⟨_, _, tg_name rfl, ?_⟩) (fun s1 hs1 => ?_)
    ·
      show At _ _ _ _ [.im n, .im touches, .ow needed1, .ow s1, .im lost_b, .im shows_b, .im it.1, .im it.2.1, .im it.2.2, .im sheet]
      have hwo : (wrD written_b pre1).Ok 1000 := wrD_ok n1 hw fun x hx => hri.2.bd x (by rw [← ex1]; exact List.mem_append_left _ hx)
      unfold wrD at hwo
      rw [← hs1] at hwo
      refine qg_dput 3 (ev_bl) (ev_var (i := 9) rfl) rfl rfl (by exact hwo.small) fun written1 h_written1 => ?_
      exact q_next (at_mid (.k (.k (.k (.k (.k (.k (.k (.k (.k (.d .n)))))))))) (by subst_vars; rfl))
    ·
      show At _ _ _ _ [.im n, .im touches, .ow needed1, .ow s1, .im lost_b, .im shows_b, .im it.1, .im it.2.1, .im it.2.2, .no]
      refine q_cut1 [.im n, .im touches, .ow needed1, .ow s1, .im (if decide (lost_b < ((needed1.length : Int) - it.1)) = true then (needed1.length : Int) - it.1 else lost_b), .im (if decide (lost_b < ((needed1.length : Int) - it.1)) = true then some it.1 else shows_b), .im it.1, .im it.2.1, .im it.2.2, .no] ?_ ?_
      · refine q_ifc (et_test (ev_b0 (ev_i0 (ev_len (ec_own (i := 2) rfl)) (ev_var (i := 6) rfl)) (ev_var (i := 4) rfl))) (fun hb0 => ?_) (fun hb0 => ?_)
        ·
          refine qg_set 4 (ev_i0 (ev_len (ec_own (i := 2) rfl)) (ev_var (i := 6) rfl)) rfl fun lost1 h_lost1 => ?_
          refine qg_set 5 (EvX.some (ev_var (i := 6) rfl)) rfl fun shows1 h_shows1 => ?_
          refine q_next ?_
          exact at_mid (.k (.k (.k (.k (.k (.k (.k (.k (.k (.d .n)))))))))) (by subst_vars; simp only [hb0, if_true, if_false, Bool.false_eq_true])
        ·
          refine q_next ?_
          exact at_mid (.k (.k (.k (.k (.k (.k (.k (.k (.k (.d .n)))))))))) (by subst_vars; simp only [hb0, if_true, if_false, Bool.false_eq_true])
      refine at_gen 4 rfl fun lost2 h_lost2 => ?_
      refine at_gen 5 rfl fun shows2 h_shows2 => ?_
      exact q_next (at_mid (.k (.k (.k (.k (.k (.k (.d (.d (.d (.d .n)))))))))) (by unfold llStep; dsimp only; rw [h_lost2, h_shows2, hs1, h_needed1, List.map_id']; rfl))
  ·
    obtain ⟨needed_e, written_e, lost_e, shows_e⟩ := s0
    show At _ _ _ _ [.im n, .im touches, .ow needed_e, .ow written_e, .im lost_e, .im shows_e, .no, .no, .no, .no]
    obtain ⟨hw, hl⟩ := ll_ok n1 (enumI touches) (needed, written, lost, shows) (enum_tch tk fun p hp => hp) (by rw [h_written]; exact Dct.Ok.emp)
    rw [← hs0] at hw hl
    dsimp only at hw hl
    rw [len_enumI] at hl
    have hne : needed.length = 0 := by rw [h_needed]; rfl
    show At _ _ _ _ [.im n, .im touches, .ow needed_e, .ow written_e, .im lost_e, .im shows_e, .no, .no, .no, .no]
    refine at_relL (i := 2) rfl ?_
    exact q_ret3L (el_catX (ev_var (i := 2) rfl) (EvL.ev (el_lcF _ _ (it_rng1 (ev_var (i := 0) rfl) (by first | omega | (dsimp only; omega))) (by first | omega | (rw [len_rng]; omega)) rfl (fun x2 hm_x2 => ⟨_, _, tg_name rfl, (by decide), et_test (ev_ninL (ev_var (i := 9) rfl) (EvX.c (ev_var (i := 2) rfl))), fun hf_x2 => ev_var (i := 9) rfl⟩))) (by exact le_line (by rw [List.map_id']; have := List.length_filter_le (fun x => !decide (x ∈ needed_e)) (rng 0 n); rw [len_rng] at this; omega))) (ev_var (i := 4) rfl) (ev_var (i := 5) rfl) (hret _ _ (by have e1 : needed_e = _ := congrArg (fun z => z.1) hs0; have e2 : lost_e = _ := congrArg (fun z => z.2.2.1) hs0; have e3 : shows_e = _ := congrArg (fun z => z.2.2.2) hs0; dsimp only at e1 e2 e3 ⊢; rw [e1, e2, e3, h_needed, h_written, h_lost, h_shows, List.map_id']; unfold llM; rfl))
end
theorem sc__law_brought : FnScope ["carried", "order", "p", "there"] ["carried", "order"] (defScope s__law_brought) := ⟨rfl, rfl, rfl, by decide +kernel, rfl, by decide +kernel, by decide +kernel⟩
section
variable {P : Program} {w : World} {K : Fg} {mg : Str → Option Value} {base : Heap}
set_option maxHeartbeats 4000000 in
theorem ok__law_brought {C : Addr} {Y : XC → Addr} (T : Tx K mg C Y) (c_Carried_bring : MCalX P w K mg base 1 C "bring" ["self", "p"] (spOX K Y (fun (z : Car C) (a : Int × Unit) (y : Unit) (z_ : Car C) => (z.absent.get? a.1).isSome = true ∧ z_ = bringC z a.1) (fun (z : Car C) (a : Int × Unit) (e : XC) => e = XC.noStep ∧ (z.absent.get? a.1).isSome = false) (fun z a => True))) : Cal P w K mg base 2 "_law_brought" ["carried", "order"] (spO K (fun (z : (Car C)) (a : (List Int) × Unit) (y : Bool) (z_ : (Car C)) => y = (broC z a.1).1 ∧ z_ = (broC z a.1).2) (fun (z : (Car C)) (a : (List Int) × Unit) => True)) := by
  have nd := sc__law_brought.nd
  refine def_spO (k := 1) T.d__law_brought sc__law_brought rfl fun fa cdv A outer s H E hr => ?_
  refine ⟨_, pss_cons (ps_for PassesOwn.never rfl (pi_list (pv 1)) (pg_name (i := 2) nd rfl (.inl rfl))
      (pss_cons (ps_set (i := 3) nd rfl (.inl rfl) (pe_bl))
      (pss_cons (ps_try_keep0 rfl rfl (T.t_noStep.names rfl) (fun W pn xe tk po => pss_cons (ps_expr (pe_mcalX c_Carried_bring T.cl tk hr (by decide) (pv 0) (pa_cons (pv 2) pa_nil)))
      (pss_nil))
      (fun a_ pn => pss_cons (ps_set (i := 3) nd rfl (.inl rfl) (pe_bl))
      (pss_nil)))
      (pss_cons (ps_if (pt_val (pv 3)) (pss_cons (ps_ret (pe_bl))
      (pss_nil)) (pss_nil))
      (pss_nil)))))
      (pss_cons (ps_ret (pe_bl))
      (pss_nil)), ?_⟩
  rintro carried ⟨order, _⟩ hpre B S0 Q hret
  show At _ _ _ _ [.ow carried, .im order, .no, .no]
  refine qg_inv (fun st_ : (Car C) => [.ow st_, .im order, .no, .no]) (fun pre (st : Car C) => st = carried ∧ ∀ y ∈ pre, (carried.absent.get? y).isSome = false) carried (it_list (ev_var (i := 1) rfl)) (.k (.k (.d (.d .n)))) ⟨rfl, fun y hy => nomatch hy⟩ (fun pre0 p post0 s0 ex0 hs0 Sb0 rb0 => ⟨_, _, tg_name rfl, ?_⟩) (fun s0 hs0 => ?_)
  ·
    show At _ _ _ _ [.ow s0, .im order, .im p, .no]
    obtain ⟨hse, hsn⟩ := hs0
    (try dsimp only at hse hsn)
    refine qg_set 3 (ev_bl) rfl fun there h_there => ?_
    refine q_try ?_
    refine q_methX (i := 0) (by decide +kernel) rfl (ea_cons (ev_var (i := 2) rfl) (ea_nil)) (by ((try dsimp only) <;> (repeat' (first | assumption | omega | refine And.intro ?_ ?_)) <;> first | trivial | assumption | omega | decide | simp)) (fun y carried1 hR_carried1 => ?_) (fun e_ he => ?_)
    ·
      show At _ _ _ _ [.ow carried1, .im order, .im p, .im there]
      refine q_next ?_
      refine q_if (et_B (ev_var (i := 3) rfl)) (fun hb0 => ?_) (fun hb0 => ?_)
      ·
        exact q_ret (ev_bl) ((hret _ _ _ rfl (by rw [hR_carried1.2, hse]; exact fp_a_eq (bring_fp _ _)) (by rw [hse] at hR_carried1; dsimp only; rw [find_bro ex0 hsn hR_carried1.1]; exact ⟨by first | rfl | exact h_there, hR_carried1.2⟩)).reb rb0)
      ·
        refine q_next ?_
        exact q_next (at_mid (.k (.k (.d (.d .n)))) ⟨carried1, by rfl, by first | exact absurd (h_there.symm.trans hb0) (by decide) | (refine ⟨hse, all_snoc hsn ?_⟩; rw [← hse]; exact hx_)⟩)
    ·
      rcases he with ⟨rfl, hx_⟩
      ·
        refine at_keep0 (e := .noStep) (T.t_noStep.met T.r_noStep_noStep) ?_
        refine qg_set 3 (ev_bl) rfl fun there1 h_there1 => ?_
        refine q_next ?_
        refine q_if (et_B (ev_var (i := 3) rfl)) (fun hb1 => ?_) (fun hb1 => ?_)
        ·
          exact q_ret (ev_bl) ((hret _ _ _ rfl (by exact absurd (hb1.symm.trans h_there1) (by decide)) (by exact absurd (hb1.symm.trans h_there1) (by decide))).reb rb0)
        ·
          refine q_next ?_
          exact q_next (at_mid (.k (.k (.d (.d .n)))) ⟨s0, by rfl, by first | exact absurd (h_there.symm.trans hb0) (by decide) | (refine ⟨hse, all_snoc hsn ?_⟩; rw [← hse]; exact hx_)⟩)
  ·
    show At _ _ _ _ [.ow s0, .im order, .no, .no]
    exact q_ret (ev_bl) (hret _ _ _ rfl (by rw [hs0.1]) (by dsimp only; rw [no_bro hs0.2]; exact ⟨rfl, hs0.1⟩))
end
theorem sc__law_gone : FnScope ["carried", "order", "asks", "many", "ticks", "now", "told"] ["carried", "order", "asks", "many"] (defScope s__law_gone) := ⟨rfl, rfl, rfl, by decide +kernel, rfl, by decide +kernel, by decide +kernel⟩
section
variable {P : Program} {w : World} {K : Fg} {mg : Str → Option Value} {base : Heap}
set_option maxHeartbeats 4000000 in
theorem ok__law_gone {C : Addr} {Y : XC → Addr} (T : Tx K mg C Y) (c_Carried_bring_n : MCal P w K mg base 1 C "bring" ["self", "p"] (spM K (fun (z : (Car C)) (a : Int × Unit) => ((), bringC z a.1)) (fun z a => (z.absent.get? a.1).isSome = true))) (c_Carried_tick : MCal P w K mg base 4 C "tick" ["self"] (spM K (fun (z : (Car C)) (a : Unit) => tickC z) (fun z a => CarOk z))) (c__law_brought : Cal P w K mg base 2 "_law_brought" ["carried", "order"] (spO K (fun (z : (Car C)) (a : (List Int) × Unit) (y : Bool) (z_ : (Car C)) => y = (broC z a.1).1 ∧ z_ = (broC z a.1).2) (fun (z : (Car C)) (a : (List Int) × Unit) => True))) : Cal P w K mg base 5 "_law_gone" ["carried", "order", "asks", "many"] (spO K (fun (z : (Car C)) (a : (List Int) × Bool × Int × Unit) (y : (List Int)) (z_ : (Car C)) => y = ((rng 0 a.2.2.1).foldl (beatC a.1 a.2.1) (z, [])).2 ∧ z_ = ((rng 0 a.2.2.1).foldl (beatC a.1 a.2.1) (z, [])).1) (fun (z : (Car C)) (a : (List Int) × Bool × Int × Unit) => ProgOk z.g ∧ RunI z.g 5000 z ∧ 0 ≤ a.2.2.1 ∧ a.2.2.1 ≤ 1000)) := by
  have nd := sc__law_gone.nd
  refine def_spO (k := 4) T.d__law_gone sc__law_gone rfl fun fa cdv A outer s H E hr => ?_
  refine ⟨_, pss_cons (ps_set (i := 4) nd rfl (.inl rfl) (pe_lst (pa_nil)))
      (pss_cons (ps_for PassesOwn.never rfl (pi_range1 (by rfl) T.n_range (pa_cons (pv 3) pa_nil)) (pg_name (i := 5) nd rfl (.inl rfl))
      (pss_cons (ps_set (i := 6) nd rfl (.inl rfl) (pe_mcal0 c_Carried_tick T.cl hr (by decide) (pv 0)))
      (Evl.pss_cut (ps_if (pt_cmpR op_ne (pe_ix (r := rIxT K) ix_tup (pv 6) pe_int (fun _ _ => rfl)) (pe_str) (nomark _)) (pss_cons (ps_expr (pe_bm PySem.F.plainAttrs_list PySem.F.slot_list_append PySem.F.type_list_append mt_append (pv 4) (pa_cons (pv 5) pa_nil)))
      (pss_cons (ps_expr (pe_cal c__law_brought hr (by decide) (by rfl) (pa_cons (pv 0) (pa_cons (pv 1) pa_nil))))
      (pss_nil))) (Evl.pss_cut (ps_if (pt_val (pv 2)) (pss_cons (ps_expr (pe_mcal c_Carried_bring_n T.cl hr (by decide) (pv 0) (pa_cons (pe_ix (r := rIxT K) ix_tup (pv 6) pe_int (fun _ _ => rfl)) pa_nil)))
      (pss_nil)) (pss_cons (ps_expr (pe_cal c__law_brought hr (by decide) (by rfl) (pa_cons (pv 0) (pa_cons (pv 1) pa_nil))))
      (pss_nil)))
      (pss_nil)))
      (pss_nil))))
      (pss_cons (ps_ret (pv 4))
      (pss_nil))), ?_⟩
  rintro carried ⟨order, asks, many, _⟩ hpre B S0 Q hret
  show At _ _ _ _ [.ow carried, .im order, .im asks, .im many, .no, .no, .no]
  obtain ⟨gk, ri, m0, m1⟩ := hpre
  (try dsimp only at gk ri m0 m1)
  refine qg_own 4 (el_lst (els_nil (α := Int)) (by simp)) rfl fun ticks h_ticks => ?_
  refine qg_inv (fun st_ : (Car C) × (List Int) => [.ow st_.1, .im order, .im asks, .im many, .ow st_.2, .no, .no]) (fun pre (st : Car C × List Int) => st = pre.foldl (beatC order asks) (carried, []) ∧ RunI carried.g (5000 + pre.length) st.1) (carried, ticks) (it_rng1 (ev_var (i := 3) rfl) (by first | omega | (dsimp only; omega))) (.k (.k (.k (.k (.k (.d (.d .n))))))) ⟨by rw [h_ticks]; rfl, by simpa using ri⟩ (fun pre0 now post0 s0 ex0 hs0 Sb0 rb0 => ⟨_, _, tg_name rfl, ?_⟩) (fun s0 hs0 => ?_)
  ·
    obtain ⟨carried_b, ticks_b⟩ := s0
    show At _ _ _ _ [.ow carried_b, .im order, .im asks, .im many, .ow ticks_b, .im now, .no]
    obtain ⟨hse, hsr⟩ := hs0
    dsimp only at hse hsr
    obtain ⟨_, hnw, hn0, hn1⟩ := rng_pre ex0
    have hlen : ticks_b.length ≤ pre0.length := by have h9 := gone_len (order := order) (asks := asks) pre0 (carried, []); rw [← hse] at h9; simpa using h9
    refine qg_set 6 (ev_methM (i := 0) (by decide +kernel) rfl (ea_nil) rfl (by exact hsr.ok gk (by omega))) rfl fun told h_told => ?_
    refine at_genO 0 rfl fun carried1 h_carried1 => ?_
    show At _ _ _ _ [.ow carried1, .im order, .im asks, .im many, .ow ticks_b, .im now, .im told]
    refine q_cutI (fun st_ : (Car C) × (List Int) => [.ow st_.1, .im order, .im asks, .im many, .ow st_.2, .im now, .im told]) (fun (st : Car C × List Int) => st = beatC order asks (carried_b, ticks_b) now) ?_ (fun sI0 hI_0 => ?_)
    · refine q_ifc (et_test (ev_ne (ev_twW (ev_var (i := 6) rfl)) (ev_str))) (fun hb0 => ?_) (fun hb0 => ?_)
      ·
        refine qg_app 4 rfl (ev_var (i := 5) rfl) rfl (by exact lt_line (by omega)) fun ticks1 h_ticks1 => ?_
        refine q_dropO (i := 0) rfl (ea_cons (ev_var (i := 1) rfl) (ea_nil)) (by trivial) fun y carried2 hR_carried2 => ?_
        show At _ _ _ _ [.ow carried2, .im order, .im asks, .im many, .ow ticks1, .im now, .im told]
        refine q_next ?_
        exact at_mid (.k (.k (.k (.k (.k (.k (.k .n))))))) ⟨(carried2, ticks1), rfl, by rw [hR_carried2.2, h_ticks1]; exact beat1 h_told h_carried1 hb0⟩
      ·
        refine q_cutI (fun st_ : (Car C) × (List Int) => [.ow st_.1, .im order, .im asks, .im many, .ow st_.2, .im now, .im told]) (fun (st : Car C × List Int) => st = beatC order asks (carried_b, ticks_b) now) ?_ (fun sI1 hI_1 => ?_)
        · refine q_ifc (et_B (ev_var (i := 2) rfl)) (fun hb1 => ?_) (fun hb1 => ?_)
          ·
            refine q_drop (ev_methM (i := 0) (by decide +kernel) rfl (ea_cons (EvX.get (α := Int) (ev_twN (ev_var (i := 6) rfl) (by rw [h_told] at hb0 ⊢; exact (lacks_one hsr.still (by simpa using hb0)).1)) (by rw [h_told] at hb0 ⊢; exact (lacks_one hsr.still (by simpa using hb0)).2.1)) (ea_nil)) rfl (by rw [h_carried1]; rw [h_told] at hb0 ⊢; exact (lacks_one hsr.still (by simpa using hb0)).2.2)) ?_
            refine at_genO 0 rfl fun carried3 h_carried3 => ?_
            show At _ _ _ _ [.ow carried3, .im order, .im asks, .im many, .ow ticks_b, .im now, .im told]
            refine q_next ?_
            exact at_mid (.k (.k (.k (.k (.k (.k (.k .n))))))) ⟨(carried3, ticks_b), rfl, by rw [h_carried3]; exact beat2 h_told h_carried1 hb0 hb1⟩
          ·
            refine q_dropO (i := 0) rfl (ea_cons (ev_var (i := 1) rfl) (ea_nil)) (by trivial) fun y1 carried4 hR_carried4 => ?_
            show At _ _ _ _ [.ow carried4, .im order, .im asks, .im many, .ow ticks_b, .im now, .im told]
            refine q_next ?_
            exact at_mid (.k (.k (.k (.k (.k (.k (.k .n))))))) ⟨(carried4, ticks_b), rfl, by rw [hR_carried4.2]; exact beat3 h_told h_carried1 hb0 hb1⟩
        ·
          obtain ⟨carried5, ticks2⟩ := sI1
          show At _ _ _ _ [.ow carried5, .im order, .im asks, .im many, .ow ticks2, .im now, .im told]
          refine q_next ?_
          exact at_mid (.k (.k (.k (.k (.k (.k (.k .n))))))) ⟨(carried5, ticks2), rfl, by exact hI_1⟩
    ·
      obtain ⟨carried6, ticks3⟩ := sI0
      show At _ _ _ _ [.ow carried6, .im order, .im asks, .im many, .ow ticks3, .im now, .im told]
      exact q_next (at_mid (.k (.k (.k (.k (.k (.d (.d .n))))))) ⟨(carried6, ticks3), by rfl, by exact ⟨by rw [List.foldl_append, ← hse]; exact hI_0, by rw [hI_0, List.length_append, List.length_singleton]; have h9 := RunI.beat (order := order) (asks := asks) (st := (carried_b, ticks_b)) (now := now) hsr gk; exact h9.mono (by omega)⟩⟩)
  ·
    obtain ⟨carried_e, ticks_e⟩ := s0
    show At _ _ _ _ [.ow carried_e, .im order, .im asks, .im many, .ow ticks_e, .no, .no]
    refine at_relL (i := 4) rfl ?_
    exact q_ret (ev_var (i := 4) rfl) (hret _ _ _ rfl (by have h9 := gone_a (order := order) (asks := asks) (rng 0 many) (carried, []); rw [← hs0.1] at h9; exact h9) (by exact ⟨congrArg Prod.snd hs0.1, congrArg Prod.fst hs0.1⟩))
end
theorem sc__law_early : FnScope ["program", "stand", "ahead", "carried", "p", "left"] ["program", "stand", "ahead"] (defScope s__law_early) := ⟨rfl, rfl, rfl, by decide +kernel, rfl, by decide +kernel, by decide +kernel⟩
section
variable {P : Program} {w : World} {K : Fg} {mg : Str → Option Value} {base : Heap}
set_option maxHeartbeats 4000000 in
theorem ok__law_early {C : Addr} {Y : XC → Addr} (T : Tx K mg C Y) (c_Carried : ICal P w K mg base 1 C "Carried" ["self", "program", "stand", "houses"] (spCI K C)) (c_Carried_begin : MCal P w K mg base 1 C "begin" ["self", "h"] (spO K (fun (z : Car C) (a : Int × Unit) (y : Unit) (z_ : Car C) => BegR z a.1 z_) (fun z a => a.1 ≠ z.place ∧ (0 ≤ a.1 ∧ a.1 < z.houses) ∧ z.goal = none ∧ z.absent.l = []))) (c_Carried_copy : MCal P w K mg base 2 C "copy" ["self", "p"] (spM K (fun (z : (Car C)) (a : Int × Unit) => ((), copyC z a.1)) (fun z a => (z.goal.isSome = true ∧ z.still = false) ∧ z.fresh.l.length ≤ 100000))) (c_Carried_early : MCal P w K mg base 2 C "early" ["self"] (spM K (fun (z : (Car C)) (a : Unit) => (z.made, goesC (lackC z (lfM z)))) (fun z a => ((z.goal.isSome = true ∧ z.still = true) ∧ 0 ≤ z.g.a ∧ z.g.a ≤ 1000) ∧ z.absent.l.length ≤ 100000))) (c_Carried_stop : MCal P w K mg base 2 C "stop" ["self"] (spM K (fun (z : (Car C)) (a : Unit) => (lfM z, stillC z)) (fun z a => (z.goal.isSome = true ∧ z.still = false) ∧ 0 ≤ z.g.a ∧ z.g.a ≤ 1000))) (c_Carried_tick : MCal P w K mg base 4 C "tick" ["self"] (spM K (fun (z : (Car C)) (a : Unit) => tickC z) (fun z a => CarOk z))) : Cal P w K mg base 5 "_law_early" ["program", "stand", "ahead"] (spCRL K C (fun (a : (T3 Int Int (Tp WRow)) × (Int × (Tp Int)) × (List (Option Int)) × Unit) (z : Car C) (y : (List Int)) => EarR a.1 a.2.1 z y) (fun a => ProgOk a.1 ∧ StandOk a.1 a.2.1 ∧ a.2.2.1.length ≤ 500)) := by
  have nd := sc__law_early.nd
  refine def_spCRL (k := 4) T.d__law_early sc__law_early rfl fun fa cdv A outer s H E hr => ?_
  refine ⟨_, pss_cons (ps_set (i := 3) nd rfl (.inl rfl) (pe_ical c_Carried hr (by decide) (by rfl) (pa_cons (pv 0) (pa_cons (pv 1) (pa_cons (pe_int) pa_nil)))))
      (pss_cons (ps_expr (pe_mcal c_Carried_begin T.cl hr (by decide) (pv 3) (pa_cons (pe_int) pa_nil)))
      (pss_cons (ps_for PassesOwn.never rfl (pi_list (pv 2)) (pg_name (i := 4) nd rfl (.inl rfl))
      (Evl.pss_cut (ps_if (pt_cmp (pc_isN (pv 4))) (pss_cons (ps_expr (pe_mcal0 c_Carried_tick T.cl hr (by decide) (pv 3)))
      (pss_nil)) (pss_cons (ps_expr (pe_mcal c_Carried_copy T.cl hr (by decide) (pv 3) (pa_cons (pv 4) pa_nil)))
      (pss_nil)))
      (pss_nil)))
      (pss_cons (ps_set (i := 5) nd rfl (.inl rfl) (pe_mcal0 c_Carried_stop T.cl hr (by decide) (pv 3)))
      (pss_cons (ps_expr (pe_mcal0 c_Carried_early T.cl hr (by decide) (pv 3)))
      (pss_cons (ps_ret (pe_tup (pa_cons (pv 3) (pa_cons (pv 5) pa_nil))))
      (pss_nil)))))), ?_⟩
  rintro ⟨program, stand, ahead, _⟩ hpre B S0 Q hret
  show At _ _ _ _ [.im program, .im stand, .im ahead, .no, .no, .no]
  obtain ⟨gk, sk, al⟩ := hpre
  dsimp only at gk sk al
  refine q_makeC 3 (ea_cons (ev_var (i := 0) rfl) (ea_cons (ev_var (i := 1) rfl) (ea_cons (ev_int) (ea_nil)))) rfl fun carried h_carried => ?_
  show At _ _ _ _ [.im program, .im stand, .im ahead, .ow carried, .no, .no]
  refine q_methO (i := 3) (by decide +kernel) rfl (ea_cons (ev_int) (ea_nil)) rfl (by obtain ⟨a_, w_, s_, f_, b_, e_⟩ := h_carried; rw [e_]; exact ⟨by show (2 : Int) ≠ 0; decide, by show (0 : Int) ≤ 2 ∧ (2 : Int) < 3; decide, rfl, rfl⟩) fun y carried1 h_carried1 => ?_
  show At _ _ _ _ [.im program, .im stand, .im ahead, .ow carried1, .no, .no]
  refine qg_inv (fun st_ : (Car C) => [.im program, .im stand, .im ahead, .ow st_, .no, .no]) (fun pre (st : Car C) => EarI program stand pre.length st) carried1 (it_list (ev_var (i := 2) rfl)) (.k (.k (.k (.k (.d (.d .n)))))) (EarI.start h_carried h_carried1) (fun pre0 p post0 s0 ex0 hs0 Sb0 rb0 => ⟨_, _, tg_name rfl, ?_⟩) (fun s0 hs0 => ?_)
  ·
    show At _ _ _ _ [.im program, .im stand, .im ahead, .ow s0, .im p, .no]
    have hpl : pre0.length < ahead.length := by rw [← ex0]; simp
    refine q_cutI (fun st_ : (Car C) => [.im program, .im stand, .im ahead, .ow st_, .im p, .no]) (fun (st : Car C) => EarI program stand (pre0.length + 1) st) ?_ (fun sI0 hI_0 => ?_)
    · refine q_ifc (et_B (ev_isN (by exact nn_int) (ev_var (i := 4) rfl))) (fun hb0 => ?_) (fun hb0 => ?_)
      ·
        refine q_drop (ev_methM (i := 3) (by decide +kernel) rfl (ea_nil) rfl (by exact hs0.ok gk sk (by omega))) ?_
        refine at_genO 3 rfl fun carried2 h_carried2 => ?_
        show At _ _ _ _ [.im program, .im stand, .im ahead, .ow carried2, .im p, .no]
        refine q_next ?_
        exact at_mid (.k (.k (.k (.k (.k (.d .n)))))) ⟨carried2, rfl, by rw [h_carried2]; exact hs0.tick gk sk⟩
      ·
        refine q_drop (ev_methM (i := 3) (by decide +kernel) rfl (ea_cons (EvX.get (α := Int) (ev_var (i := 4) rfl) (by exact no_isSome hb0)) (ea_nil)) rfl (by exact hs0.cp (by omega))) ?_
        refine at_genO 3 rfl fun carried3 h_carried3 => ?_
        show At _ _ _ _ [.im program, .im stand, .im ahead, .ow carried3, .im p, .no]
        refine q_next ?_
        exact at_mid (.k (.k (.k (.k (.k (.d .n)))))) ⟨carried3, rfl, by rw [h_carried3]; exact hs0.copy _⟩
    ·
      show At _ _ _ _ [.im program, .im stand, .im ahead, .ow sI0, .im p, .no]
      exact q_next (at_mid (.k (.k (.k (.k (.d (.d .n)))))) ⟨sI0, by rfl, by rw [List.length_append, List.length_singleton]; exact hI_0⟩)
  ·
    show At _ _ _ _ [.im program, .im stand, .im ahead, .ow s0, .no, .no]
    refine qg_set 5 (ev_methM (i := 3) (by decide +kernel) rfl (ea_nil) rfl (by exact hs0.st gk)) rfl fun left h_left => ?_
    refine at_genO 3 rfl fun carried5 h_carried5 => ?_
    show At _ _ _ _ [.im program, .im stand, .im ahead, .ow carried5, .no, .im left]
    refine q_drop (ev_methM (i := 3) (by decide +kernel) rfl (ea_nil) rfl (by rw [h_carried5]; exact hs0.ea gk)) ?_
    refine at_genO 3 rfl fun carried6 h_carried6 => ?_
    show At _ _ _ _ [.im program, .im stand, .im ahead, .ow carried6, .no, .im left]
    exact q_retCL (j := 3) rfl (ev_var (i := 5) rfl) (hret _ _ _ 3 rfl (by rw [h_carried6, h_carried5, h_left]; exact hs0.fin gk (by omega)))
end
theorem sc__law_right : FnScope ["program", "stand", "ahead", "order", "n", "asks", "carried", "left", "begun", "ticks", "some", "reads", "writes", "due", "found", "away", "now", "p"] ["program", "stand", "ahead", "order"] (defScope s__law_right) := ⟨rfl, rfl, rfl, by decide +kernel, rfl, by decide +kernel, by decide +kernel⟩
section
variable {P : Program} {w : World} {K : Fg} {mg : Str → Option Value} {base : Heap}
set_option maxHeartbeats 4000000 in
theorem ok__law_right {C : Addr} {Y : XC → Addr} (T : Tx K mg C Y) (c_Carried_now : MCal P w K mg base 1 C "now" ["self"] (spM K (fun (z : (Car C)) (a : Unit) => (z.st, z)) (fun z a => True))) (c_Carried_ticks : MCal P w K mg base 1 C "ticks" ["self"] (spM K (fun (z : (Car C)) (a : Unit) => (z.done, z)) (fun z a => True))) (c__law_early : Cal P w K mg base 5 "_law_early" ["program", "stand", "ahead"] (spCRL K C (fun (a : (T3 Int Int (Tp WRow)) × (Int × (Tp Int)) × (List (Option Int)) × Unit) (z : Car C) (y : (List Int)) => EarR a.1 a.2.1 z y) (fun a => ProgOk a.1 ∧ StandOk a.1 a.2.1 ∧ a.2.2.1.length ≤ 500))) (c__law_gone : Cal P w K mg base 5 "_law_gone" ["carried", "order", "asks", "many"] (spO K (fun (z : (Car C)) (a : (List Int) × Bool × Int × Unit) (y : (List Int)) (z_ : (Car C)) => y = ((rng 0 a.2.2.1).foldl (beatC a.1 a.2.1) (z, [])).2 ∧ z_ = ((rng 0 a.2.2.1).foldl (beatC a.1 a.2.1) (z, [])).1) (fun (z : (Car C)) (a : (List Int) × Bool × Int × Unit) => ProgOk z.g ∧ RunI z.g 5000 z ∧ 0 ≤ a.2.2.1 ∧ a.2.2.1 ≤ 1000))) (c_asked_for : Cal P w K mg base 3 "asked_for" ["n", "touches", "order"] (spN K (fun a : Int × (List ((Tp Int) × (Tp Int))) × (List Int) × Unit => playG a.2.1 a.2.2.1 true) (fun a => (∃ n, n ≤ 1000 ∧ TchOk n a.2.1 ∧ ∀ x, 0 ≤ x → x < n → x ∈ a.2.2.1) ∧ (∀ x ∈ a.2.2.1, 0 ≤ x ∧ x < 1000) ∧ a.2.2.1.length ≤ 1000 ∧ a.2.1.length ≤ 10000))) (c_fetched : Cal P w K mg base 3 "fetched" ["n", "touches", "order"] (spN K (fun a : Int × (List ((Tp Int) × (Tp Int))) × (List Int) × Unit => playG a.2.1 a.2.2.1 false) (fun a => (∃ n, n ≤ 1000 ∧ TchOk n a.2.1 ∧ ∀ x, 0 ≤ x → x < n → x ∈ a.2.2.1) ∧ (∀ x ∈ a.2.2.1, 0 ≤ x ∧ x < 1000) ∧ a.2.2.1.length ≤ 1000 ∧ a.2.1.length ≤ 10000))) (c_least_lost : Cal P w K mg base 1 "least_lost" ["n", "touches"] (spN K (fun a : Int × (List ((Tp Int) × (Tp Int))) × Unit => llM a.1 a.2.1) (fun a => 0 ≤ a.1 ∧ a.1 ≤ 1000 ∧ a.2.1.length ≤ 500 ∧ TchOk a.1 a.2.1))) (c_run : Cal P w K mg base 5 "run" ["program", "stand", "letters", "many"] (spN K (fun a : (T3 Int Int (Tp WRow)) × (Int × (Tp Int)) × (List (Int × Int)) × Int × Unit => (((runM a.1 a.2.1 a.2.2.1 a.2.2.2.1).a, (runM a.1 a.2.1 a.2.2.1 a.2.2.2.1).b) : Stand × Said)) (fun a => ProgOk a.1 ∧ StandOk a.1 a.2.1 ∧ LetsOk a.1 a.2.2.1 ∧ 0 ≤ a.2.2.2.1 ∧ a.2.2.2.1 ≤ 10000))) (c_touches : Cal P w K mg base 5 "touches" ["program", "stand", "letters", "many"] (spN K (fun a : (T3 Int Int (Tp WRow)) × (Int × (Tp Int)) × (List (Int × Int)) × Int × Unit => (runM a.1 a.2.1 a.2.2.1 a.2.2.2.1).c) (fun a => ProgOk a.1 ∧ StandOk a.1 a.2.1 ∧ LetsOk a.1 a.2.2.1 ∧ 0 ≤ a.2.2.2.1 ∧ a.2.2.2.1 ≤ 10000))) : Cal P w K mg base 6 "_law_right" ["program", "stand", "ahead", "order"] (spF K (fun a : (T3 Int Int (Tp WRow)) × (Int × (Tp Int)) × (List (Option Int)) × (List Int) × Unit => true) (fun a => ProgOk a.1 ∧ StandOk a.1 a.2.1 ∧ a.2.2.1.length ≤ 500 ∧ a.2.2.2.1.Perm (rng 0 a.1.a))) := by
  have nd := sc__law_right.nd
  refine def_spF (k := 5) T.d__law_right sc__law_right rfl fun fa cdv A outer s H E hr => ?_
  refine ⟨_, pss_cons (ps_set (i := 4) nd rfl (.inl rfl) (pe_ix (r := rIxT K) ix_tup (pv 0) pe_int (fun _ _ => rfl)))
      (pss_cons (ps_for PassesOwn.never rfl (pi_tup (pe_tup (pa_cons (pe_bl) (pa_cons (pe_bl) pa_nil)))) (pg_name (i := 5) nd rfl (.inl rfl))
      (pss_cons (ps_asg (pe_cal c__law_early hr (by decide) (by rfl) (pa_cons (pv 0) (pa_cons (pv 1) (pa_cons (pv 2) pa_nil)))) (pg_tup rfl (pgs_cons (pg_name (i := 6) nd rfl (.inl rfl)) (pgs_cons (pg_name (i := 7) nd rfl (.inr rfl)) pgs_nil))))
      (pss_cons (ps_set (i := 8) nd rfl (.inl rfl) (pe_mcal0 c_Carried_now T.cl hr (by decide) (pv 6)))
      (pss_cons (ps_set (i := 9) nd rfl (.inr rfl) (pe_cal c__law_gone hr (by decide) (by rfl) (pa_cons (pv 6) (pa_cons (pv 3) (pa_cons (pv 5) (pa_cons (pe_int) pa_nil))))))
      (pss_cons (ps_set (i := 10) nd rfl (.inl rfl) (pe_lst (pa_nil)))
      (pss_cons (ps_for PassesOwn.never rfl (pi_list (pe_cal c_touches hr (by decide) (by rfl) (pa_cons (pv 0) (pa_cons (pv 8) (pa_cons (pe_lst (pa_nil)) (pa_cons (pe_callB call_lenG (by rfl) T.n_len (by decide +kernel) (pa_cons (pv 9) pa_nil)) pa_nil)))))) (pg_tup rfl (pgs_cons (pg_name (i := 11) nd rfl (.inl rfl)) (pgs_cons (pg_name (i := 12) nd rfl (.inl rfl)) (pgs_nil))))
      (pss_cons (ps_expr (pe_bm PySem.F.plainAttrs_list PySem.F.slot_list_append PySem.F.type_list_append mt_append (pv 10) (pa_cons (pe_tup (pa_cons (pe_callTy call_tupG (by rfl) T.n_tuple (by decide +kernel) (pa_cons (pe_lc (own := [("p", 17)]) (g := gName 17) (by rfl) nd (pi_tup (pv 11)) (blkOk_by (N := ["program", "stand", "ahead", "order", "n", "asks", "carried", "left", "begun", "ticks", "some", "reads", "writes", "due", "found", "away", "now", "p"]) (sc := defScope s__law_right) (by decide +kernel)) (fun _ _ _ _ _ => pg_name (i := 17) nd rfl (.inl rfl) (.inr rfl)) (fun _ _ _ _ _ => pts_one (pt_cmpR (r := rIn K false) op_in_seq (pv 17) (pv 7) (by rfl))) (fun _ _ _ _ _ => pv 17)) pa_nil)) (pa_cons (pv 12) pa_nil))) pa_nil)))
      (pss_nil)))
      (pss_cons (ps_set (i := 13) nd rfl (.inl rfl) (pe_op op_cat (pe_lc (own := [("p", 17)]) (g := gName 17) (by rfl) nd (pi_list (pv 3)) (blkOk_by (N := ["program", "stand", "ahead", "order", "n", "asks", "carried", "left", "begun", "ticks", "some", "reads", "writes", "due", "found", "away", "now", "p"]) (sc := defScope s__law_right) (by decide +kernel)) (fun _ _ _ _ _ => pg_name (i := 17) nd rfl (.inl rfl) (.inr rfl)) (fun _ _ _ _ _ => pts_one (pt_cmpR (r := rIn K false) op_in_seq (pv 17) (pv 7) (by rfl))) (fun _ _ _ _ _ => pv 17)) (pe_lc (own := [("p", 17)]) (g := gName 17) (by rfl) nd (pi_list (pv 3)) (blkOk_by (N := ["program", "stand", "ahead", "order", "n", "asks", "carried", "left", "begun", "ticks", "some", "reads", "writes", "due", "found", "away", "now", "p"]) (sc := defScope s__law_right) (by decide +kernel)) (fun _ _ _ _ _ => pg_name (i := 17) nd rfl (.inl rfl) (.inr rfl)) (fun _ _ _ _ _ => pts_one (pt_cmpR (r := rIn K true) op_notIn_seq (pv 17) (pv 7) (by rfl))) (fun _ _ _ _ _ => pv 17))))
      (pss_cons (ps_set (i := 14) nd rfl (.inl rfl) (pe_pick2 c_fetched c_asked_for hr (by decide) (by decide) (by rfl) (by rfl) (pe_callTy call_intG (by rfl) T.n_int (by decide +kernel) (pa_cons (pv 5) pa_nil)) (fun _ _ => rfl) (pa_cons (pv 4) (pa_cons (pv 10) (pa_cons (pv 13) pa_nil)))))
      (pss_cons (ps_if (PW.pt (pw_or (pt_cmpR (op_neD hr.units) (pe_ix (r := rIxT K) ix_tup (pv 14) pe_int (fun _ _ => rfl)) (pv 9) (nomark _)) (pw_or1 (pt_cmpR op_gt (pe_ix (r := rIxT K) ix_tup (pe_cal c_least_lost hr (by decide) (by rfl) (pa_cons (pv 4) (pa_cons (pv 10) pa_nil))) pe_int (fun _ _ => rfl)) (pe_ix (r := rIxT K) ix_tup (pv 14) pe_int (fun _ _ => rfl)) (nomark _))))) (pss_cons ps_never (pss_nil)) (pss_nil))
      (pss_cons (ps_if (pt_cmpR (op_neD hr.units) (pe_mcal0 c_Carried_now T.cl hr (by decide) (pv 6)) (pe_ix (r := rIxT K) ix_tup (pe_cal c_run hr (by decide) (by rfl) (pa_cons (pv 0) (pa_cons (pv 1) (pa_cons (pe_lst (pa_nil)) (pa_cons (pe_mcal0 c_Carried_ticks T.cl hr (by decide) (pv 6)) pa_nil))))) pe_int (fun _ _ => rfl)) (nomark _)) (pss_cons ps_never (pss_nil)) (pss_nil))
      (pss_cons (ps_setLc (i := 15) (own := [("now", 16)]) (g := gName 16) rfl nd rfl rfl (sw_true rfl rfl rfl (by decide +kernel)) (pi_range1 (by rfl) T.n_range (pa_cons (pe_ix (r := rIxL K) ix_list (pe_op op_cat (pv 9) (pe_lst (pa_cons (pe_int) pa_nil))) (pe_op op_sub (pe_un un_neg (pe_int)) (pe_callTy call_intG (by rfl) T.n_int (by decide +kernel) (pa_cons (pe_cmpR (op_neD hr.units) (pv 9) (pe_lst (pa_nil)) (nomark _)) pa_nil))) (fun _ _ => rfl)) pa_nil)) (blkOk_by (N := ["program", "stand", "ahead", "order", "n", "asks", "carried", "left", "begun", "ticks", "some", "reads", "writes", "due", "found", "away", "now", "p"]) (sc := defScope s__law_right) (by decide +kernel)) (fun _ _ _ _ _ => pg_name (i := 16) nd rfl (.inl rfl) (.inr rfl)) (fun _ _ _ _ _ => pts_one (pt_cmpR (r := rIn K true) op_notIn_seq (pv 16) (pv 9) (by rfl))) (fun _ _ _ _ _ => pv 16))
      (pss_cons (ps_if (pt_cmpR op_ne (pe_ix (r := rIxT K) ix_tup (pv 14) pe_int (fun _ _ => rfl)) (pe_callB call_lenG (by rfl) T.n_len (by decide +kernel) (pa_cons (pv 15) pa_nil)) (nomark _)) (pss_cons ps_never (pss_nil)) (pss_nil))
      (pss_nil)))))))))))))
      (pss_cons (ps_ret (pe_bl))
      (pss_nil))), ?_⟩
  rintro ⟨program, stand, ahead, order, _⟩ hpre B S0 Q hret
  show At _ _ _ _ [.im program, .im stand, .im ahead, .im order, .no, .no, .no, .no, .no, .no, .no, .no, .no, .no, .no, .no, .no, .no]
  obtain ⟨gk, sk, al, op⟩ := hpre
  dsimp only at gk sk al op
  have hg0 := gk.n0
  have hg1 := gk.n1
  have hol : order.length ≤ 12 := by rw [op.length_eq, len_rng]; omega
  refine qg_set 4 (ev_3a (ev_var (i := 0) rfl)) rfl fun n h_n => ?_
  refine qg_inv (fun st_ : Unit => [.im program, .im stand, .im ahead, .im order, .im n, .no, .no, .no, .no, .no, .no, .no, .no, .no, .no, .no, .no, .no]) (fun _ (_ : Unit) => True) () (it_tup (ev_tp (els_cons (ev_bl) (els_cons (ev_bl) (els_nil))) (by simp))) (.k (.k (.k (.k (.k (.d (.d (.d (.d (.d (.d (.d (.d (.d (.d (.d (.d (.d .n)))))))))))))))))) (by trivial) (fun pre0 asks post0 s0 ex0 hs0 Sb0 rb0 => ⟨_, _, tg_name rfl, ?_⟩) (fun s0 hs0 => ?_)
  ·
    show At _ _ _ _ [.im program, .im stand, .im ahead, .im order, .im n, .im asks, .no, .no, .no, .no, .no, .no, .no, .no, .no, .no, .no, .no]
    refine q_newCL 6 7 (ea_cons (ev_var (i := 0) rfl) (ea_cons (ev_var (i := 1) rfl) (ea_cons (ev_var (i := 2) rfl) (ea_nil)))) (by exact ⟨gk, sk, al⟩) rfl rfl fun carried left h_carried => ?_
    show At _ _ _ _ [.im program, .im stand, .im ahead, .im order, .im n, .im asks, .ow carried, .im left, .no, .no, .no, .no, .no, .no, .no, .no, .no, .no]
    refine qg_set 8 (ev_methM (i := 6) (by decide +kernel) rfl (ea_nil) rfl (by trivial)) rfl fun begun h_begun => ?_
    show At _ _ _ _ [.im program, .im stand, .im ahead, .im order, .im n, .im asks, .ow carried, .im left, .im begun, .no, .no, .no, .no, .no, .no, .no, .no, .no]
    refine q_setO (i := 6) 9 rfl (ea_cons (ev_var (i := 3) rfl) (ea_cons (ev_var (i := 5) rfl) (ea_cons (ev_int) (ea_nil)))) (by have h9 := h_carried.pre gk sk; exact ⟨h9.1, h9.2, by show (0 : Int) ≤ 40; decide, by show (40 : Int) ≤ 1000; decide⟩) (fun _ => rfl) fun ticks carried1 hR_carried1 => ?_
    show At _ _ _ _ [.im program, .im stand, .im ahead, .im order, .im n, .im asks, .ow carried1, .im left, .im begun, .im ticks, .no, .no, .no, .no, .no, .no, .no, .no]
    have ri : RightI program stand begun order left ticks asks carried1 := right_ok gk sk h_carried op h_begun rfl hR_carried1
    have htl := ri.len
    refine qg_own 10 (el_lst (els_nil (α := ((Tp Int) × (Tp Int)))) (by simp)) rfl fun some h_some => ?_
    refine qg_inv (fun st_ : (List ((Tp Int) × (Tp Int))) => [.im program, .im stand, .im ahead, .im order, .im n, .im asks, .ow carried1, .im left, .im begun, .im ticks, .ow st_, .no, .no, .no, .no, .no, .no, .no]) (fun pre (st : Tch) => st = pre.map (filR left)) some (it_list (ev_callN (ea_cons (ev_var (i := 0) rfl) (ea_cons (ev_var (i := 8) rfl) (ea_cons (EvL.ev (el_lst (els_nil (α := (Int × Int))) (by simp))) (ea_cons (ev_len (EvX.c (ev_var (i := 9) rfl))) (ea_nil))))) (by exact ⟨gk, ri.bo, LetsOk.nil _, by dsimp only; omega, by dsimp only; omega⟩))) (.k (.k (.k (.k (.k (.k (.k (.k (.k (.k (.k (.d (.d (.d (.d (.d (.d (.d .n)))))))))))))))))) h_some (fun pre1 it post1 s1 ex1 hs1 Sb1 rb1 => ⟨_, _, tg_pair (tg_name rfl) (tg_name rfl), ?_⟩) (fun s1 hs1 => ?_)
    ·
      show At _ _ _ _ [.im program, .im stand, .im ahead, .im order, .im n, .im asks, .ow carried1, .im left, .im begun, .im ticks, .ow s1, .im it.1, .im it.2, .no, .no, .no, .no, .no]
      have hpl1 : pre1.length < ticks.length := by have h9 := ri.sl; rw [List.length_map, ← ex1, List.length_append, List.length_cons] at h9; omega
      have hit1 : it.1.l.length ≤ 2 := by have h9 : it ∈ (runM program begun [] ticks.length).c := (by rw [← ex1]; simp); unfold runM at h9; exact (tou_len _ _ h9).1
      refine qg_app 10 rfl (ev_pair (ev_tup (EvL.c (el_lcF _ _ (it_tup (ev_var (i := 11) rfl)) (by omega) rfl (fun x hm_x => ⟨_, _, tg_name rfl, (by decide), et_test (ev_inL (ev_var (i := 17) rfl) (EvX.c (ev_var (i := 7) rfl))), fun hf_x => ev_var (i := 17) rfl⟩)))) (ev_var (i := 12) rfl)) rfl (by rw [hs1, List.length_map]; exact lt_line (by omega)) fun some1 h_some1 => ?_
      exact q_next (at_mid (.k (.k (.k (.k (.k (.k (.k (.k (.k (.k (.k (.d (.d (.d (.d (.d (.d (.d .n)))))))))))))))))) ⟨some1, by rfl, by rw [h_some1, hs1, List.map_append]; simp only [List.map_id']; rfl⟩)
    ·
      show At _ _ _ _ [.im program, .im stand, .im ahead, .im order, .im n, .im asks, .ow carried1, .im left, .im begun, .im ticks, .ow s1, .no, .no, .no, .no, .no, .no, .no]
      refine at_relL (i := 10) rfl ?_
      refine qg_set 13 (EvL.ev (el_catX (EvL.ev (el_lcF _ _ (it_list (ev_var (i := 3) rfl)) (by first | omega | (dsimp only; omega) | (rw [len_rng]; omega) | (rw [len_rng]; exact le_line (by omega))) rfl (fun x1 hm_x1 => ⟨_, _, tg_name rfl, (by decide), et_test (ev_inL (ev_var (i := 17) rfl) (EvX.c (ev_var (i := 7) rfl))), fun hf_x1 => ev_var (i := 17) rfl⟩))) (EvL.ev (el_lcF _ _ (it_list (ev_var (i := 3) rfl)) (by first | omega | (dsimp only; omega) | (rw [len_rng]; omega) | (rw [len_rng]; exact le_line (by omega))) rfl (fun x2 hm_x2 => ⟨_, _, tg_name rfl, (by decide), et_test (ev_ninL (ev_var (i := 17) rfl) (EvX.c (ev_var (i := 7) rfl))), fun hf_x2 => ev_var (i := 17) rfl⟩))) (by simp only [List.map_id']; have h8 := List.length_filter_le (fun p => decide (p ∈ left)) order; have h9 := List.length_filter_le (fun p => !decide (p ∈ left)) order; exact le_line (by omega)))) rfl fun due h_due => ?_
      have hdu : due = dueL order left := by rw [h_due]; simp only [List.map_id']; rfl
      have hpr := ri.pre gk op hs1 hdu
      have hle := ri.least gk op hs1 hdu
      refine qg_set 14 (ev_pick2N (ev_intB (ev_var (i := 5) rfl)) rfl (ea_cons (ev_var (i := 4) rfl) (ea_cons (ev_var (i := 10) rfl) (ea_cons (ev_var (i := 13) rfl) (ea_nil)))) (by exact hpr) (by exact hpr)) rfl fun found h_found => ?_
      have hfo : found = playG s1 due asks := by rw [h_found]; cases asks <;> rfl
      have hf1 : found.1 = ticks := by rw [hfo, hs1, hdu]; exact ri.ge.fst
      show At _ _ _ _ [.im program, .im stand, .im ahead, .im order, .im n, .im asks, .ow carried1, .im left, .im begun, .im ticks, .im s1, .no, .no, .im due, .im found, .no, .no, .no]
      refine q_ifF (et_or (et_test (ev_neD (ev_fst (ev_var (i := 14) rfl)) (ev_var (i := 9) rfl) (by decide))) (fun hc => et_test (ev_b0 (ev_3b (ev_callN (ea_cons (ev_var (i := 4) rfl) (ea_cons (ev_var (i := 10) rfl) (ea_nil))) (by exact ⟨by dsimp only; omega, by dsimp only; omega, by dsimp only; rw [hs1, ri.sl]; omega, by dsimp only; rw [hs1, h_n]; exact ri.tch⟩))) (ev_snd (ev_var (i := 14) rfl))))) ?_ ?_
      · rw [decide_eq_true hf1]; show decide (found.2 < (llM n s1).b) = false; rw [hfo, h_n]; exact decide_eq_false (Int.not_lt.mpr hle)
      refine q_ifF (et_test (ev_neD (ev_methM (i := 6) (by decide +kernel) rfl (ea_nil) rfl (by trivial)) (ev_fst (ev_callN (ea_cons (ev_var (i := 0) rfl) (ea_cons (ev_var (i := 1) rfl) (ea_cons (EvL.ev (el_lst (els_nil (α := (Int × Int))) (by simp))) (ea_cons (ev_methM (i := 6) (by decide +kernel) rfl (ea_nil) rfl (by trivial)) (ea_nil))))) (by exact ⟨gk, sk, LetsOk.nil _, ri.dn.1, ri.dn.2⟩))) (by decide))) ?_ ?_
      · show (!decide (carried1.st = (runM program stand [] carried1.done).a)) = false; rw [decide_eq_true ri.st]; rfl
      refine qg_set 15 (EvL.ev (el_lcF _ _ (it_rng1 (ev_ixNeg (EvL.ev (el_catX (ev_var (i := 9) rfl) (EvL.ev (el_lst (els_cons (ev_int) (els_nil)) (by simp))) (by exact le_line (by simp only [List.length_append, List.length_singleton, List.length_cons, List.length_nil]; omega)))) (ev_i0 (ev_neg (ev_int)) (ev_intB (ev_neD (ev_var (i := 9) rfl) (EvL.ev (el_lst (els_nil (α := Int)) (by simp))) (by decide)))) (by exact last_lt0) (by exact last_ge0)) (by rw [last_ix]; have h9 := ri.lo; omega)) (by rw [len_rng, last_ix]; have h9 := ri.lo; omega) rfl (fun x3 hm_x3 => ⟨_, _, tg_name rfl, (by decide), et_test (ev_ninL (ev_var (i := 16) rfl) (EvX.c (ev_var (i := 9) rfl))), fun hf_x3 => ev_var (i := 16) rfl⟩))) rfl fun away h_away => ?_
      refine q_ifF (et_test (ev_ne (ev_snd (ev_var (i := 14) rfl)) (ev_len (EvX.c (ev_var (i := 15) rfl))))) ?_ ?_
      · have h9 : found.2 = (away.length : Int) := by rw [hfo, hs1, hdu, h_away]; simp only [List.map_id', last_ix]; exact ri.ge.snd
        show (!decide (found.2 = (away.length : Int))) = false
        rw [decide_eq_true h9]; rfl
      exact q_next (at_mid (.k (.k (.k (.k (.k (.d (.d (.d (.d (.d (.d (.d (.d (.d (.d (.d (.d (.d .n)))))))))))))))))) ⟨(), by rfl, by trivial⟩)
  ·
    show At _ _ _ _ [.im program, .im stand, .im ahead, .im order, .im n, .no, .no, .no, .no, .no, .no, .no, .no, .no, .no, .no, .no, .no]
    exact q_ret (ev_bl) (hret _ _ (by subst_vars; rfl))
end
theorem sc_law : FnScope ["script", "pen", "turn", "program", "stand", "ahead", "p"] ["script"] (defScope s_law) := ⟨rfl, rfl, rfl, by decide +kernel, rfl, by decide +kernel, by decide +kernel⟩
section
variable {P : Program} {w : World} {K : Fg} {mg : Str → Option Value} {base : Heap}
set_option maxHeartbeats 4000000 in
theorem ok_law {fa : Addr} {fd : FuncData} {C : Addr} {Y : XC → Addr} (T : Tx K mg C Y) (F : Fun K "law" "law" s_law fa fd) (c__law_order : Cal P w K mg base 2 "_law_order" ["pen", "n"] (spRP K (fun (a : Int × Unit) (y : (List Int)) => y.Perm (rng 0 a.1)) (fun a => 1 ≤ a.1 ∧ a.1 ≤ 1000))) (c__law_pen : Cal P w K mg base 1 "_law_pen" ["script"] (spPen K)) (c__law_program : Cal P w K mg base 3 "_law_program" ["pen", "takes"] (spRP K (fun (a : Bool × Unit) (y : (T3 Int Int (Tp WRow))) => ProgOk y ∧ ∀ r ∈ y.c.l, RowT a.1 r) (fun a => True))) (c__law_right : Cal P w K mg base 6 "_law_right" ["program", "stand", "ahead", "order"] (spF K (fun a : (T3 Int Int (Tp WRow)) × (Int × (Tp Int)) × (List (Option Int)) × (List Int) × Unit => true) (fun a => ProgOk a.1 ∧ StandOk a.1 a.2.1 ∧ a.2.2.1.length ≤ 500 ∧ a.2.2.2.1.Perm (rng 0 a.1.a)))) (c__law_stand : Cal P w K mg base 3 "_law_stand" ["pen", "program"] (spRP K (fun (a : (T3 Int Int (Tp WRow)) × Unit) (y : (Int × (Tp Int))) => StandOk a.1 y) (fun a => ProgOk a.1))) (c__law_take : Cal P w K mg base 1 "_law_take" ["pen", "many"] (spM K (fun (z : Pen) (a : Int × Unit) => penTake z a.1) (fun z a => 0 < a.1 ∧ a.1 < 1073741824))) : FnOk P w K mg base CX0 7 fa fd ["script"] (spLaw K) := by
  have nd := sc_law.nd
  refine fn_law (k := 6) F sc_law fun cdv A outer s H E hr => ?_
  refine ⟨_, pss_cons (ps_set (i := 1) nd rfl (.inl rfl) (pe_cal c__law_pen hr (by decide) (by rfl) (pa_cons (pv 0) pa_nil)))
      (pss_cons (ps_for PassesOwn.never rfl (pi_range1 (by rfl) T.n_range (pa_cons (pe_int) pa_nil)) (pg_name (i := 2) nd rfl (.inl rfl))
      (pss_cons (ps_set (i := 3) nd rfl (.inl rfl) (pe_cal c__law_program hr (by decide) (by rfl) (pa_cons (pv 1) (pa_cons (pe_bl) pa_nil))))
      (pss_cons (ps_set (i := 4) nd rfl (.inl rfl) (pe_cal c__law_stand hr (by decide) (by rfl) (pa_cons (pv 1) (pa_cons (pv 3) pa_nil))))
      (pss_cons (ps_set (i := 5) nd rfl (.inl rfl) (pe_lst (pa_nil)))
      (pss_cons (ps_for PassesOwn.never rfl (pi_range1 (by rfl) T.n_range (pa_cons (pe_ix (r := rIxT K) ix_tup (pv 3) pe_int (fun _ _ => rfl)) pa_nil)) (pg_name (i := 6) nd rfl (.inl rfl))
      (pss_cons (ps_set (i := 5) nd rfl (.inl rfl) (pe_op op_cat (pe_op op_cat (pv 5) (pe_op op_rep (pe_lst (pa_cons (pv 6) pa_nil)) (pe_callTy call_intG (by rfl) T.n_int (by decide +kernel) (pa_cons (pe_cmpR op_eq (pe_cal c__law_take hr (by decide) (by rfl) (pa_cons (pv 1) (pa_cons (pe_int) pa_nil))) (pe_int) (nomark _)) pa_nil)))) (pe_op op_rep (pe_lst (pa_cons (pe_non) pa_nil)) (pe_op op_fdiv (pe_cal c__law_take hr (by decide) (by rfl) (pa_cons (pv 1) (pa_cons (pe_int) pa_nil))) (pe_int)))))
      (pss_nil)))
      (pss_cons (ps_if (pt_not (pt_val (pe_cal c__law_right hr (by decide) (by rfl) (pa_cons (pv 3) (pa_cons (pv 4) (pa_cons (pv 5) (pa_cons (pe_cal c__law_order hr (by decide) (by rfl) (pa_cons (pv 1) (pa_cons (pe_ix (r := rIxT K) ix_tup (pv 3) pe_int (fun _ _ => rfl)) pa_nil))) pa_nil))))))) (pss_cons ps_never (pss_nil)) (pss_nil))
      (pss_nil)))))))
      (pss_cons (ps_ret (pe_bl))
      (pss_nil))), ?_⟩
  intro script hpre B S0 Q hret
  show At _ _ _ _ [.im script, .no, .no, .no, .no, .no, .no]
  refine q_pen 1 (ea_cons (ev_var (i := 0) rfl) ea_nil) hpre rfl fun pen hl_pen => ?_
  refine qg_inv (fun st_ : Pen => [.im script, .ow st_, .no, .no, .no, .no, .no]) (fun _ (_ : Pen) => True) pen (it_rng1 (ev_int) (by first | omega | (dsimp only; omega))) (.k (.k (.d (.d (.d (.d (.d .n))))))) (by trivial) (fun pre0 turn post0 s0 ex0 hs0 Sb0 rb0 => ⟨_, _, tg_name rfl, ?_⟩) (fun s0 hs0 => ?_)
  ·
    show At _ _ _ _ [.im script, .ow s0, .im turn, .no, .no, .no, .no]
    refine q_relP 1 rfl (ea_cons (ev_bl) (ea_nil)) rfl (by ((try dsimp only) <;> (repeat' (first | assumption | omega | refine And.intro ?_ ?_)) <;> first | trivial | assumption | omega | decide | simp)) fun program pen1 hR_program a_pen1 => ⟨_, _, tg_name rfl, ?_⟩
    show At _ _ _ _ [.im script, .ow pen1, .im turn, .im program, .no, .no, .no]
    have hg := hR_program.1
    have hg0 := hg.n0
    have hg1 := hg.n1
    have hw0 := hg.w0
    have hw1 := hg.w1
    refine q_relP 1 rfl (ea_cons (ev_var (i := 3) rfl) (ea_nil)) rfl (by exact hg) fun stand pen2 hR_stand a_pen2 => ⟨_, _, tg_name rfl, ?_⟩
    show At _ _ _ _ [.im script, .ow pen2, .im turn, .im program, .im stand, .no, .no]
    refine qg_set 5 (EvL.ev (el_lst (els_nil (α := (Option Int))) (by simp))) rfl fun ahead h_ahead => ?_
    refine qg_inv (fun st_ : Pen × (List (Option Int)) => [.im script, .ow st_.1, .im turn, .im program, .im stand, .im st_.2, .no]) (fun pre (st : Pen × List (Option Int)) => st.2.length ≤ 2 * pre.length) (pen2, ahead) (it_rng1 (ev_3a (ev_var (i := 3) rfl)) (by first | omega | (dsimp only; omega))) (.k (.k (.k (.k (.k (.k (.d .n))))))) (by rw [h_ahead]; exact Nat.le_refl _) (fun pre1 p post1 s1 ex1 hs1 Sb1 rb1 => ⟨_, _, tg_name rfl, ?_⟩) (fun s1 hs1 => ?_)
    ·
      obtain ⟨pen_b1, ahead_b⟩ := s1
      show At _ _ _ _ [.im script, .ow pen_b1, .im turn, .im program, .im stand, .im ahead_b, .im p]
      have hpl := rng_pre ex1
      have hal : ahead_b.length ≤ 2 * pre1.length := hs1
      have hlen := fun (b : Bool) (z : Pen) => ahead_len (x := some p) (y := (none : Option Int)) (b := b) (z := z) hal
      have hp12 : pre1.length ≤ 12 := by omega
      refine qg_set 5 (EvL.ev (el_catX (EvL.ev (el_catX (ev_var (i := 5) rfl) (EvL.ev (el_rep (EvL.ev (el_lst (els_cons (EvX.some (ev_var (i := 6) rfl)) (els_nil)) (by simp))) (ev_intB (ev_eq (ev_callM (i := 1) rfl (ea_cons (ev_int) (ea_nil)) rfl (by refine ⟨?_, ?_⟩ <;> first | decide | omega | (dsimp only; omega))) (ev_int))) (by split <;> decide) (by exact le_line (by split <;> simp)))) (by have h9 := (hlen (decide ((penTake pen_b1 3).1 = 0)) (penTake pen_b1 3).2).1; rw [List.length_append] at h9; exact le_line (by dsimp only; omega)))) (EvL.ev (el_rep (EvL.ev (el_lst (els_cons (ev_none (α := Int)) (els_nil)) (by simp))) (ev_iC (ev_callM (i := 1) rfl (ea_cons (ev_int) (ea_nil)) rfl (by refine ⟨?_, ?_⟩ <;> first | decide | omega | (dsimp only; omega))) (ev_int) (by first | exact ⟨by decide, by decide⟩ | exact ⟨by omega, by omega⟩)) (by exact third_bd _) (by have h5 := pen_bd (penTake pen_b1 3).2 (m := 5) (by decide); rw [List.length_singleton, Nat.one_mul]; exact le_line (by dsimp only; omega)))) (by have h9 := (hlen (decide ((penTake pen_b1 3).1 = 0)) (penTake pen_b1 3).2).2; rw [List.length_append] at h9; exact le_line (by dsimp only; omega)))) rfl fun ahead1 h_ahead1 => ?_
      refine at_genO 1 rfl fun pen3 h_pen3 => ?_
      show At _ _ _ _ [.im script, .ow pen3, .im turn, .im program, .im stand, .im ahead1, .im p]
      exact q_next (at_mid (.k (.k (.k (.k (.k (.k (.d .n))))))) ⟨(pen3, ahead1), by rfl, by rw [List.length_append, List.length_singleton]; show ahead1.length ≤ _; rw [h_ahead1]; exact (hlen _ _).2⟩)
    ·
      obtain ⟨pen_e, ahead_e⟩ := s1
      show At _ _ _ _ [.im script, .ow pen_e, .im turn, .im program, .im stand, .im ahead_e, .no]
      have hal : ahead_e.length ≤ 24 := by have h9 : ahead_e.length ≤ 2 * (rng 0 program.a).length := hs1; rw [len_rng] at h9; omega
      refine q_ifWF (etw_not (etw_B (ew_call (eaw_cons (ev_var (i := 3) rfl) (eaw_cons (ev_var (i := 4) rfl) (eaw_cons (ev_var (i := 5) rfl) (eaw_last (ew_rel 1 rfl (ea_cons (ev_3a (ev_var (i := 3) rfl)) (ea_nil)) rfl (by exact ⟨by dsimp only; omega, by dsimp only; omega⟩)))))) (fun ⟨w, pen4⟩ ⟨hR_w, a_pen4⟩ => (by exact ⟨hg, hR_stand, by dsimp only; omega, hR_w⟩))))) (fun ⟨w, pen4⟩ ⟨hR_w, a_pen4⟩ => ?_) (fun ⟨w, pen4⟩ ⟨hR_w, a_pen4⟩ => ?_)
      · rfl
      show At _ _ _ _ [.im script, .ow pen4, .im turn, .im program, .im stand, .im ahead_e, .no]
      exact q_next (at_mid (.k (.k (.d (.d (.d (.d (.d .n))))))) ⟨pen4, by rfl, by trivial⟩)
  ·
    show At _ _ _ _ [.im script, .ow s0, .no, .no, .no, .no, .no]
    exact q_ret (ev_bl) (hret _ _ (by rfl))
end
end L50
namespace L50
open PySem PySem.Spec PyProof.Rows L2 GL
theorem def_mk {K : Fg} {mg : Str → Option Value} {h : Heap} {x : Str} {st : Stmt} {ps : List Str} {f : Addr} {oc : Value} {od an : Option Addr} {osl : Array (Option Value)} {kV doc pm cdv ct : Value} (X : K.In h) (G : h.Ns mainGlobals mg) (a : PySem.W.nsIn K mainGlobals x = some (some (.ref f)))
    (l : K.lookup f = some ⟨oc, od, .func (PySem.W.fnOf x x (defArgs st) (defBody st) (defScope st) .none kV doc pm an cdv ct), osl⟩) (c : PySem.W.codeIn K cdv x = true) (k : PySem.W.keepIn K (.ref f) = true)
    (hb : ∀ (kV doc pm : Value) (an : Option Addr) (cdv ct : Value) (us : List Value), us.length = ps.length → bindArgs (PySem.W.fnOf x x (defArgs st) (defBody st) (defScope st) .none kV doc pm an cdv ct) ⟨us, []⟩ = pure (ps.zip us)) : Def K mg x st ps :=
  ⟨f, _, PySem.W.mg_of X G a, fun_mk l c k, (fun_mk l c k).binds hb⟩
section
variable {P : Program} {w : World} {K : Fg} {mg : Str → Option Value} {base : Heap}
set_option maxHeartbeats 4000000 in
theorem all_ok {fa : Addr} {fd : FuncData} {C : Addr} {Y : XC → Addr} (T : Tx K mg C Y) (F : Fun K "law" "law" s_law fa fd) : FnOk P w K mg base CX0 7 fa fd ["script"] (spLaw K) := by
  have c_row_at : Cal P w K mg base 1 "row_at" ["program", "stand"] (spF K (fun a : (T3 Int Int (Tp WRow)) × (Int × (Tp Int)) × Unit => rowAtM a.1 a.2.1) (fun a => ProgOk a.1 ∧ StandOk a.1 a.2.1)) := ok_row_at T 
  have c_reads_of : Cal P w K mg base 1 "reads_of" ["row"] (spF K (fun a : WRow × Unit => readsM a.1) (fun a => a.1 ≠ WRow.fin)) := ok_reads_of T 
  have c_writes_of : Cal P w K mg base 1 "writes_of" ["row"] (spF K (fun a : WRow × Unit => writesM a.1) (fun a => True)) := ok_writes_of T 
  have c_with_number : Cal P w K mg base 1 "with_number" ["sheets", "sheet", "number"] (spF K (fun a : (Tp Int) × Int × Int × Unit => withM a.1 a.2.1 a.2.2.1) (fun a => a.1.l.length ≤ 1000)) := ok_with_number T 
  have c_row_done : Cal P w K mg base 2 "row_done" ["program", "stand", "row", "letters"] (spF K (fun a : (T3 Int Int (Tp WRow)) × (Int × (Tp Int)) × WRow × (List Int) × Unit => doneM a.1 a.2.1 a.2.2.1 a.2.2.2.1) (fun a => ProgOk a.1 ∧ StandOk a.1 a.2.1 ∧ RowV a.1.a a.1.b a.1.c.l.length a.2.2.1 ∧ a.2.2.1 ≠ WRow.fin ∧ (a.2.2.1.isTake = true → a.2.2.2.1 ≠ []))) := ok_row_done T c_reads_of c_with_number c_writes_of
  have c_tick : Cal P w K mg base 3 "tick" ["program", "stand", "letters"] (spF K (fun a : (T3 Int Int (Tp WRow)) × (Int × (Tp Int)) × (List Int) × Unit => tickM a.1 a.2.1 a.2.2.1) (fun a => ProgOk a.1 ∧ StandOk a.1 a.2.1 ∧ a.2.2.1.length ≤ 100000)) := ok_tick T c_row_at c_row_done
  have c_tick_ticks := c_tick.alias T.al_tick_ticks
  have c_Carried : ICal P w K mg base 1 C "Carried" ["self", "program", "stand", "houses"] (spCI K C) := ok_Carried T
  have c_Carried_need_going : MCal P w K mg base 1 C "need_going" ["self"] (spM K (fun (z : (Car C)) (a : Unit) => ((), z)) (fun z a => z.goal.isSome = true ∧ z.still = false)) := ok_Carried_need_going T 
  have c_Carried_need_still : MCal P w K mg base 1 C "need_still" ["self"] (spM K (fun (z : (Car C)) (a : Unit) => ((), z)) (fun z a => z.still = true)) := ok_Carried_need_still T 
  have c_Carried_left : MCal P w K mg base 1 C "left" ["self"] (spM K (fun (z : (Car C)) (a : Unit) => (lfM z, z)) (fun z a => 0 ≤ z.g.a ∧ z.g.a ≤ 1000)) := ok_Carried_left T 
  have c_Carried_goes_on : MCal P w K mg base 1 C "goes_on" ["self"] (spM K (fun (z : (Car C)) (a : Unit) => ((), goesC z)) (fun z a => z.goal.isSome = true)) := ok_Carried_goes_on T 
  have c_Carried_tick : MCal P w K mg base 4 C "tick" ["self"] (spM K (fun (z : (Car C)) (a : Unit) => tickC z) (fun z a => CarOk z)) := ok_Carried_tick T c_reads_of c_row_at c_tick_ticks
  have c_Carried_begin : MCal P w K mg base 1 C "begin" ["self", "h"] (spO K (fun (z : Car C) (a : Int × Unit) (y : Unit) (z_ : Car C) => BegR z a.1 z_) (fun z a => a.1 ≠ z.place ∧ (0 ≤ a.1 ∧ a.1 < z.houses) ∧ z.goal = none ∧ z.absent.l = [])) := ok_Carried_begin T 
  have c_Carried_copy : MCal P w K mg base 2 C "copy" ["self", "p"] (spM K (fun (z : (Car C)) (a : Int × Unit) => ((), copyC z a.1)) (fun z a => (z.goal.isSome = true ∧ z.still = false) ∧ z.fresh.l.length ≤ 100000)) := ok_Carried_copy T c_Carried_need_going
  have c_Carried_stop : MCal P w K mg base 2 C "stop" ["self"] (spM K (fun (z : (Car C)) (a : Unit) => (lfM z, stillC z)) (fun z a => (z.goal.isSome = true ∧ z.still = false) ∧ 0 ≤ z.g.a ∧ z.g.a ≤ 1000)) := ok_Carried_stop T c_Carried_left c_Carried_need_going
  have c_Carried_early : MCal P w K mg base 2 C "early" ["self"] (spM K (fun (z : (Car C)) (a : Unit) => (z.made, goesC (lackC z (lfM z)))) (fun z a => ((z.goal.isSome = true ∧ z.still = true) ∧ 0 ≤ z.g.a ∧ z.g.a ≤ 1000) ∧ z.absent.l.length ≤ 100000)) := ok_Carried_early T c_Carried_goes_on c_Carried_left c_Carried_need_still
  have c_Carried_now : MCal P w K mg base 1 C "now" ["self"] (spM K (fun (z : (Car C)) (a : Unit) => (z.st, z)) (fun z a => True)) := ok_Carried_now T 
  have c_Carried_ticks : MCal P w K mg base 1 C "ticks" ["self"] (spM K (fun (z : (Car C)) (a : Unit) => (z.done, z)) (fun z a => True)) := ok_Carried_ticks T 
  have c_Carried_bring : MCalX P w K mg base 1 C "bring" ["self", "p"] (spOX K Y (fun (z : Car C) (a : Int × Unit) (y : Unit) (z_ : Car C) => (z.absent.get? a.1).isSome = true ∧ z_ = bringC z a.1) (fun (z : Car C) (a : Int × Unit) (e : XC) => e = XC.noStep ∧ (z.absent.get? a.1).isSome = false) (fun z a => True)) := ok_Carried_bring T 
  have c_Carried_bring_n : MCal P w K mg base 1 C "bring" ["self", "p"] (spM K (fun (z : (Car C)) (a : Int × Unit) => ((), bringC z a.1)) (fun z a => (z.absent.get? a.1).isSome = true)) := ok_Carried_bring_n T 
  have c_gone : Cal P w K mg base 4 "gone" ["program", "stand", "letters", "many"] (spN K (fun a : (T3 Int Int (Tp WRow)) × (Int × (Tp Int)) × (List (Int × Int)) × Int × Unit => runM a.1 a.2.1 a.2.2.1 a.2.2.2.1) (fun a => ProgOk a.1 ∧ StandOk a.1 a.2.1 ∧ LetsOk a.1 a.2.2.1 ∧ 0 ≤ a.2.2.2.1 ∧ a.2.2.2.1 ≤ 10000)) := ok_gone T c_tick_ticks
  have c_run : Cal P w K mg base 5 "run" ["program", "stand", "letters", "many"] (spN K (fun a : (T3 Int Int (Tp WRow)) × (Int × (Tp Int)) × (List (Int × Int)) × Int × Unit => (((runM a.1 a.2.1 a.2.2.1 a.2.2.2.1).a, (runM a.1 a.2.1 a.2.2.1 a.2.2.2.1).b) : Stand × Said)) (fun a => ProgOk a.1 ∧ StandOk a.1 a.2.1 ∧ LetsOk a.1 a.2.2.1 ∧ 0 ≤ a.2.2.2.1 ∧ a.2.2.2.1 ≤ 10000)) := ok_run T c_gone
  have c_touches : Cal P w K mg base 5 "touches" ["program", "stand", "letters", "many"] (spN K (fun a : (T3 Int Int (Tp WRow)) × (Int × (Tp Int)) × (List (Int × Int)) × Int × Unit => (runM a.1 a.2.1 a.2.2.1 a.2.2.2.1).c) (fun a => ProgOk a.1 ∧ StandOk a.1 a.2.1 ∧ LetsOk a.1 a.2.2.1 ∧ 0 ≤ a.2.2.2.1 ∧ a.2.2.2.1 ≤ 10000)) := ok_touches T c_gone
  have c__law_pen : Cal P w K mg base 1 "_law_pen" ["script"] (spPen K) := ok__law_pen T 
  have c__law_take : Cal P w K mg base 1 "_law_take" ["pen", "many"] (spM K (fun (z : Pen) (a : Int × Unit) => penTake z a.1) (fun z a => 0 < a.1 ∧ a.1 < 1073741824)) := ok__law_take T 
  have c__law_row : Cal P w K mg base 2 "_law_row" ["pen", "n", "w", "many", "takes"] (spM K (fun (z : Pen) (a : Int × Int × Int × Bool × Unit) => rowM z a.1 a.2.1 a.2.2.1 a.2.2.2.1) (fun z a => (0 < a.1 ∧ a.1 < 1000) ∧ (0 < a.2.1 ∧ a.2.1 < 1000) ∧ 0 < a.2.2.1 ∧ a.2.2.1 < 1000)) := ok__law_row T c__law_take
  have c__law_sheets : Cal P w K mg base 2 "_law_sheets" ["pen", "program"] (spM K (fun (z : Pen) (a : (T3 Int Int (Tp WRow)) × Unit) => sheetsM z a.1) (fun z a => (0 ≤ a.1.a ∧ a.1.a ≤ 1000) ∧ 0 < a.1.b ∧ a.1.b < 1000)) := ok__law_sheets T c__law_take
  have c__law_program : Cal P w K mg base 3 "_law_program" ["pen", "takes"] (spRP K (fun (a : Bool × Unit) (y : (T3 Int Int (Tp WRow))) => ProgOk y ∧ ∀ r ∈ y.c.l, RowT a.1 r) (fun a => True)) := ok__law_program T c__law_row c__law_take
  have c__law_stand : Cal P w K mg base 3 "_law_stand" ["pen", "program"] (spRP K (fun (a : (T3 Int Int (Tp WRow)) × Unit) (y : (Int × (Tp Int))) => StandOk a.1 y) (fun a => ProgOk a.1)) := ok__law_stand T c__law_sheets c__law_take
  have c__law_order : Cal P w K mg base 2 "_law_order" ["pen", "n"] (spRP K (fun (a : Int × Unit) (y : (List Int)) => y.Perm (rng 0 a.1)) (fun a => 1 ≤ a.1 ∧ a.1 ≤ 1000)) := ok__law_order T c__law_take
  have c_lacking : Cal P w K mg base 1 "lacking" ["reads", "here"] (spF K (fun a : (Tp Int) × (Dct Bool) × Unit => lackQ a.1.l a.2.1) (fun a => a.1.l.length ≤ 1000)) := ok_lacking T 
  have c_next_of : Cal P w K mg base 1 "next_of" ["order", "here"] (spF K (fun a : (List Int) × (Dct Bool) × Unit => nextM a.1 a.2.1) (fun a => True)) := ok_next_of T 
  have c_gone_by : Cal P w K mg base 2 "gone_by" ["some", "order", "asks"] (spN K (fun a : (List ((Tp Int) × (Tp Int))) × (List Int) × Bool × Unit => playG a.1 a.2.1 a.2.2.1) (fun a => (∃ n, n ≤ 1000 ∧ TchOk n a.1 ∧ ∀ x, 0 ≤ x → x < n → x ∈ a.2.1) ∧ (∀ x ∈ a.2.1, 0 ≤ x ∧ x < 1000) ∧ a.2.1.length ≤ 1000 ∧ a.1.length ≤ 10000)) := ok_gone_by T c_lacking c_next_of
  have c_fetched : Cal P w K mg base 3 "fetched" ["n", "touches", "order"] (spN K (fun a : Int × (List ((Tp Int) × (Tp Int))) × (List Int) × Unit => playG a.2.1 a.2.2.1 false) (fun a => (∃ n, n ≤ 1000 ∧ TchOk n a.2.1 ∧ ∀ x, 0 ≤ x → x < n → x ∈ a.2.2.1) ∧ (∀ x ∈ a.2.2.1, 0 ≤ x ∧ x < 1000) ∧ a.2.2.1.length ≤ 1000 ∧ a.2.1.length ≤ 10000)) := ok_fetched T c_gone_by
  have c_asked_for : Cal P w K mg base 3 "asked_for" ["n", "touches", "order"] (spN K (fun a : Int × (List ((Tp Int) × (Tp Int))) × (List Int) × Unit => playG a.2.1 a.2.2.1 true) (fun a => (∃ n, n ≤ 1000 ∧ TchOk n a.2.1 ∧ ∀ x, 0 ≤ x → x < n → x ∈ a.2.2.1) ∧ (∀ x ∈ a.2.2.1, 0 ≤ x ∧ x < 1000) ∧ a.2.2.1.length ≤ 1000 ∧ a.2.1.length ≤ 10000)) := ok_asked_for T c_gone_by
  have c_least_lost : Cal P w K mg base 1 "least_lost" ["n", "touches"] (spN K (fun a : Int × (List ((Tp Int) × (Tp Int))) × Unit => llM a.1 a.2.1) (fun a => 0 ≤ a.1 ∧ a.1 ≤ 1000 ∧ a.2.1.length ≤ 500 ∧ TchOk a.1 a.2.1)) := ok_least_lost T 
  have c__law_brought : Cal P w K mg base 2 "_law_brought" ["carried", "order"] (spO K (fun (z : (Car C)) (a : (List Int) × Unit) (y : Bool) (z_ : (Car C)) => y = (broC z a.1).1 ∧ z_ = (broC z a.1).2) (fun (z : (Car C)) (a : (List Int) × Unit) => True)) := ok__law_brought T c_Carried_bring
  have c__law_gone : Cal P w K mg base 5 "_law_gone" ["carried", "order", "asks", "many"] (spO K (fun (z : (Car C)) (a : (List Int) × Bool × Int × Unit) (y : (List Int)) (z_ : (Car C)) => y = ((rng 0 a.2.2.1).foldl (beatC a.1 a.2.1) (z, [])).2 ∧ z_ = ((rng 0 a.2.2.1).foldl (beatC a.1 a.2.1) (z, [])).1) (fun (z : (Car C)) (a : (List Int) × Bool × Int × Unit) => ProgOk z.g ∧ RunI z.g 5000 z ∧ 0 ≤ a.2.2.1 ∧ a.2.2.1 ≤ 1000)) := ok__law_gone T c_Carried_bring_n c_Carried_tick c__law_brought
  have c__law_early : Cal P w K mg base 5 "_law_early" ["program", "stand", "ahead"] (spCRL K C (fun (a : (T3 Int Int (Tp WRow)) × (Int × (Tp Int)) × (List (Option Int)) × Unit) (z : Car C) (y : (List Int)) => EarR a.1 a.2.1 z y) (fun a => ProgOk a.1 ∧ StandOk a.1 a.2.1 ∧ a.2.2.1.length ≤ 500)) := ok__law_early T c_Carried c_Carried_begin c_Carried_copy c_Carried_early c_Carried_stop c_Carried_tick
  have c__law_right : Cal P w K mg base 6 "_law_right" ["program", "stand", "ahead", "order"] (spF K (fun a : (T3 Int Int (Tp WRow)) × (Int × (Tp Int)) × (List (Option Int)) × (List Int) × Unit => true) (fun a => ProgOk a.1 ∧ StandOk a.1 a.2.1 ∧ a.2.2.1.length ≤ 500 ∧ a.2.2.2.1.Perm (rng 0 a.1.a))) := ok__law_right T c_Carried_now c_Carried_ticks c__law_early c__law_gone c_asked_for c_fetched c_least_lost c_run c_touches
  exact ok_law T F c__law_order c__law_pen c__law_program c__law_right c__law_stand c__law_take
end
set_option maxHeartbeats 4000000 in
theorem all_mk {l : PySem.W.OpenLaw} {w : World} {K : Fg} {h : Heap} {mg : Str → Option Value} {fa f1 f2 f3 f4 f5 f6 f7 f8 f9 f10 f11 f12 f13 f14 f15 f16 f17 f18 f19 f20 f21 f22 f23 f24 f25 f26 f27 : Addr} (X : K.In h) (G : h.Ns mainGlobals mg) (hfa : mg "law" = some (.ref fa))
    {od1 an1 : Option Addr} {sl1 : Array (Option Value)} {oc1 kV1 dc1 pm1 cd1 ct1 : Value}
    (a1 : PySem.W.nsIn K mainGlobals "row_at" = some (some (.ref f1))) (l1 : K.lookup f1 = some ⟨oc1, od1, .func (PySem.W.fnOf "row_at" "row_at" (defArgs s_row_at) (defBody s_row_at) (defScope s_row_at) .none kV1 dc1 pm1 an1 cd1 ct1), sl1⟩) (c1 : PySem.W.codeIn K cd1 "row_at" = true) (k1 : PySem.W.keepIn K (.ref f1) = true)
    {od2 an2 : Option Addr} {sl2 : Array (Option Value)} {oc2 kV2 dc2 pm2 cd2 ct2 : Value}
    (a2 : PySem.W.nsIn K mainGlobals "reads_of" = some (some (.ref f2))) (l2 : K.lookup f2 = some ⟨oc2, od2, .func (PySem.W.fnOf "reads_of" "reads_of" (defArgs s_reads_of) (defBody s_reads_of) (defScope s_reads_of) .none kV2 dc2 pm2 an2 cd2 ct2), sl2⟩) (c2 : PySem.W.codeIn K cd2 "reads_of" = true) (k2 : PySem.W.keepIn K (.ref f2) = true)
    {od3 an3 : Option Addr} {sl3 : Array (Option Value)} {oc3 kV3 dc3 pm3 cd3 ct3 : Value}
    (a3 : PySem.W.nsIn K mainGlobals "writes_of" = some (some (.ref f3))) (l3 : K.lookup f3 = some ⟨oc3, od3, .func (PySem.W.fnOf "writes_of" "writes_of" (defArgs s_writes_of) (defBody s_writes_of) (defScope s_writes_of) .none kV3 dc3 pm3 an3 cd3 ct3), sl3⟩) (c3 : PySem.W.codeIn K cd3 "writes_of" = true) (k3 : PySem.W.keepIn K (.ref f3) = true)
    {od4 an4 : Option Addr} {sl4 : Array (Option Value)} {oc4 kV4 dc4 pm4 cd4 ct4 : Value}
    (a4 : PySem.W.nsIn K mainGlobals "with_number" = some (some (.ref f4))) (l4 : K.lookup f4 = some ⟨oc4, od4, .func (PySem.W.fnOf "with_number" "with_number" (defArgs s_with_number) (defBody s_with_number) (defScope s_with_number) .none kV4 dc4 pm4 an4 cd4 ct4), sl4⟩) (c4 : PySem.W.codeIn K cd4 "with_number" = true) (k4 : PySem.W.keepIn K (.ref f4) = true)
    {od5 an5 : Option Addr} {sl5 : Array (Option Value)} {oc5 kV5 dc5 pm5 cd5 ct5 : Value}
    (a5 : PySem.W.nsIn K mainGlobals "row_done" = some (some (.ref f5))) (l5 : K.lookup f5 = some ⟨oc5, od5, .func (PySem.W.fnOf "row_done" "row_done" (defArgs s_row_done) (defBody s_row_done) (defScope s_row_done) .none kV5 dc5 pm5 an5 cd5 ct5), sl5⟩) (c5 : PySem.W.codeIn K cd5 "row_done" = true) (k5 : PySem.W.keepIn K (.ref f5) = true)
    {od6 an6 : Option Addr} {sl6 : Array (Option Value)} {oc6 kV6 dc6 pm6 cd6 ct6 : Value}
    (a6 : PySem.W.nsIn K mainGlobals "tick" = some (some (.ref f6))) (l6 : K.lookup f6 = some ⟨oc6, od6, .func (PySem.W.fnOf "tick" "tick" (defArgs s_tick) (defBody s_tick) (defScope s_tick) .none kV6 dc6 pm6 an6 cd6 ct6), sl6⟩) (c6 : PySem.W.codeIn K cd6 "tick" = true) (k6 : PySem.W.keepIn K (.ref f6) = true)
    {od7 an7 : Option Addr} {sl7 : Array (Option Value)} {oc7 kV7 dc7 pm7 cd7 ct7 : Value}
    (a7 : PySem.W.nsIn K mainGlobals "lacking" = some (some (.ref f7))) (l7 : K.lookup f7 = some ⟨oc7, od7, .func (PySem.W.fnOf "lacking" "lacking" (defArgs s_lacking) (defBody s_lacking) (defScope s_lacking) .none kV7 dc7 pm7 an7 cd7 ct7), sl7⟩) (c7 : PySem.W.codeIn K cd7 "lacking" = true) (k7 : PySem.W.keepIn K (.ref f7) = true)
    {od8 an8 : Option Addr} {sl8 : Array (Option Value)} {oc8 kV8 dc8 pm8 cd8 ct8 : Value}
    (a8 : PySem.W.nsIn K mainGlobals "next_of" = some (some (.ref f8))) (l8 : K.lookup f8 = some ⟨oc8, od8, .func (PySem.W.fnOf "next_of" "next_of" (defArgs s_next_of) (defBody s_next_of) (defScope s_next_of) .none kV8 dc8 pm8 an8 cd8 ct8), sl8⟩) (c8 : PySem.W.codeIn K cd8 "next_of" = true) (k8 : PySem.W.keepIn K (.ref f8) = true)
    {od9 an9 : Option Addr} {sl9 : Array (Option Value)} {oc9 kV9 dc9 pm9 cd9 ct9 : Value}
    (a9 : PySem.W.nsIn K mainGlobals "gone_by" = some (some (.ref f9))) (l9 : K.lookup f9 = some ⟨oc9, od9, .func (PySem.W.fnOf "gone_by" "gone_by" (defArgs s_gone_by) (defBody s_gone_by) (defScope s_gone_by) .none kV9 dc9 pm9 an9 cd9 ct9), sl9⟩) (c9 : PySem.W.codeIn K cd9 "gone_by" = true) (k9 : PySem.W.keepIn K (.ref f9) = true)
    {od10 an10 : Option Addr} {sl10 : Array (Option Value)} {oc10 kV10 dc10 pm10 cd10 ct10 : Value}
    (a10 : PySem.W.nsIn K mainGlobals "fetched" = some (some (.ref f10))) (l10 : K.lookup f10 = some ⟨oc10, od10, .func (PySem.W.fnOf "fetched" "fetched" (defArgs s_fetched) (defBody s_fetched) (defScope s_fetched) .none kV10 dc10 pm10 an10 cd10 ct10), sl10⟩) (c10 : PySem.W.codeIn K cd10 "fetched" = true) (k10 : PySem.W.keepIn K (.ref f10) = true)
    {od11 an11 : Option Addr} {sl11 : Array (Option Value)} {oc11 kV11 dc11 pm11 cd11 ct11 : Value}
    (a11 : PySem.W.nsIn K mainGlobals "asked_for" = some (some (.ref f11))) (l11 : K.lookup f11 = some ⟨oc11, od11, .func (PySem.W.fnOf "asked_for" "asked_for" (defArgs s_asked_for) (defBody s_asked_for) (defScope s_asked_for) .none kV11 dc11 pm11 an11 cd11 ct11), sl11⟩) (c11 : PySem.W.codeIn K cd11 "asked_for" = true) (k11 : PySem.W.keepIn K (.ref f11) = true)
    {od12 an12 : Option Addr} {sl12 : Array (Option Value)} {oc12 kV12 dc12 pm12 cd12 ct12 : Value}
    (a12 : PySem.W.nsIn K mainGlobals "least_lost" = some (some (.ref f12))) (l12 : K.lookup f12 = some ⟨oc12, od12, .func (PySem.W.fnOf "least_lost" "least_lost" (defArgs s_least_lost) (defBody s_least_lost) (defScope s_least_lost) .none kV12 dc12 pm12 an12 cd12 ct12), sl12⟩) (c12 : PySem.W.codeIn K cd12 "least_lost" = true) (k12 : PySem.W.keepIn K (.ref f12) = true)
    {od13 an13 : Option Addr} {sl13 : Array (Option Value)} {oc13 kV13 dc13 pm13 cd13 ct13 : Value}
    (a13 : PySem.W.nsIn K mainGlobals "gone" = some (some (.ref f13))) (l13 : K.lookup f13 = some ⟨oc13, od13, .func (PySem.W.fnOf "gone" "gone" (defArgs s_gone) (defBody s_gone) (defScope s_gone) .none kV13 dc13 pm13 an13 cd13 ct13), sl13⟩) (c13 : PySem.W.codeIn K cd13 "gone" = true) (k13 : PySem.W.keepIn K (.ref f13) = true)
    {od14 an14 : Option Addr} {sl14 : Array (Option Value)} {oc14 kV14 dc14 pm14 cd14 ct14 : Value}
    (a14 : PySem.W.nsIn K mainGlobals "run" = some (some (.ref f14))) (l14 : K.lookup f14 = some ⟨oc14, od14, .func (PySem.W.fnOf "run" "run" (defArgs s_run) (defBody s_run) (defScope s_run) .none kV14 dc14 pm14 an14 cd14 ct14), sl14⟩) (c14 : PySem.W.codeIn K cd14 "run" = true) (k14 : PySem.W.keepIn K (.ref f14) = true)
    {od15 an15 : Option Addr} {sl15 : Array (Option Value)} {oc15 kV15 dc15 pm15 cd15 ct15 : Value}
    (a15 : PySem.W.nsIn K mainGlobals "touches" = some (some (.ref f15))) (l15 : K.lookup f15 = some ⟨oc15, od15, .func (PySem.W.fnOf "touches" "touches" (defArgs s_touches) (defBody s_touches) (defScope s_touches) .none kV15 dc15 pm15 an15 cd15 ct15), sl15⟩) (c15 : PySem.W.codeIn K cd15 "touches" = true) (k15 : PySem.W.keepIn K (.ref f15) = true)
    {od16 an16 : Option Addr} {sl16 : Array (Option Value)} {oc16 kV16 dc16 pm16 cd16 ct16 : Value}
    (a16 : PySem.W.nsIn K mainGlobals "_law_pen" = some (some (.ref f16))) (l16 : K.lookup f16 = some ⟨oc16, od16, .func (PySem.W.fnOf "_law_pen" "_law_pen" (defArgs s__law_pen) (defBody s__law_pen) (defScope s__law_pen) .none kV16 dc16 pm16 an16 cd16 ct16), sl16⟩) (c16 : PySem.W.codeIn K cd16 "_law_pen" = true) (k16 : PySem.W.keepIn K (.ref f16) = true)
    {od17 an17 : Option Addr} {sl17 : Array (Option Value)} {oc17 kV17 dc17 pm17 cd17 ct17 : Value}
    (a17 : PySem.W.nsIn K mainGlobals "_law_take" = some (some (.ref f17))) (l17 : K.lookup f17 = some ⟨oc17, od17, .func (PySem.W.fnOf "_law_take" "_law_take" (defArgs s__law_take) (defBody s__law_take) (defScope s__law_take) .none kV17 dc17 pm17 an17 cd17 ct17), sl17⟩) (c17 : PySem.W.codeIn K cd17 "_law_take" = true) (k17 : PySem.W.keepIn K (.ref f17) = true)
    {od18 an18 : Option Addr} {sl18 : Array (Option Value)} {oc18 kV18 dc18 pm18 cd18 ct18 : Value}
    (a18 : PySem.W.nsIn K mainGlobals "_law_row" = some (some (.ref f18))) (l18 : K.lookup f18 = some ⟨oc18, od18, .func (PySem.W.fnOf "_law_row" "_law_row" (defArgs s__law_row) (defBody s__law_row) (defScope s__law_row) .none kV18 dc18 pm18 an18 cd18 ct18), sl18⟩) (c18 : PySem.W.codeIn K cd18 "_law_row" = true) (k18 : PySem.W.keepIn K (.ref f18) = true)
    {od19 an19 : Option Addr} {sl19 : Array (Option Value)} {oc19 kV19 dc19 pm19 cd19 ct19 : Value}
    (a19 : PySem.W.nsIn K mainGlobals "_law_program" = some (some (.ref f19))) (l19 : K.lookup f19 = some ⟨oc19, od19, .func (PySem.W.fnOf "_law_program" "_law_program" (defArgs s__law_program) (defBody s__law_program) (defScope s__law_program) .none kV19 dc19 pm19 an19 cd19 ct19), sl19⟩) (c19 : PySem.W.codeIn K cd19 "_law_program" = true) (k19 : PySem.W.keepIn K (.ref f19) = true)
    {od20 an20 : Option Addr} {sl20 : Array (Option Value)} {oc20 kV20 dc20 pm20 cd20 ct20 : Value}
    (a20 : PySem.W.nsIn K mainGlobals "_law_sheets" = some (some (.ref f20))) (l20 : K.lookup f20 = some ⟨oc20, od20, .func (PySem.W.fnOf "_law_sheets" "_law_sheets" (defArgs s__law_sheets) (defBody s__law_sheets) (defScope s__law_sheets) .none kV20 dc20 pm20 an20 cd20 ct20), sl20⟩) (c20 : PySem.W.codeIn K cd20 "_law_sheets" = true) (k20 : PySem.W.keepIn K (.ref f20) = true)
    {od21 an21 : Option Addr} {sl21 : Array (Option Value)} {oc21 kV21 dc21 pm21 cd21 ct21 : Value}
    (a21 : PySem.W.nsIn K mainGlobals "_law_stand" = some (some (.ref f21))) (l21 : K.lookup f21 = some ⟨oc21, od21, .func (PySem.W.fnOf "_law_stand" "_law_stand" (defArgs s__law_stand) (defBody s__law_stand) (defScope s__law_stand) .none kV21 dc21 pm21 an21 cd21 ct21), sl21⟩) (c21 : PySem.W.codeIn K cd21 "_law_stand" = true) (k21 : PySem.W.keepIn K (.ref f21) = true)
    {od22 an22 : Option Addr} {sl22 : Array (Option Value)} {oc22 kV22 dc22 pm22 cd22 ct22 : Value}
    (a22 : PySem.W.nsIn K mainGlobals "_law_order" = some (some (.ref f22))) (l22 : K.lookup f22 = some ⟨oc22, od22, .func (PySem.W.fnOf "_law_order" "_law_order" (defArgs s__law_order) (defBody s__law_order) (defScope s__law_order) .none kV22 dc22 pm22 an22 cd22 ct22), sl22⟩) (c22 : PySem.W.codeIn K cd22 "_law_order" = true) (k22 : PySem.W.keepIn K (.ref f22) = true)
    {od23 an23 : Option Addr} {sl23 : Array (Option Value)} {oc23 kV23 dc23 pm23 cd23 ct23 : Value}
    (a23 : PySem.W.nsIn K mainGlobals "_law_brought" = some (some (.ref f23))) (l23 : K.lookup f23 = some ⟨oc23, od23, .func (PySem.W.fnOf "_law_brought" "_law_brought" (defArgs s__law_brought) (defBody s__law_brought) (defScope s__law_brought) .none kV23 dc23 pm23 an23 cd23 ct23), sl23⟩) (c23 : PySem.W.codeIn K cd23 "_law_brought" = true) (k23 : PySem.W.keepIn K (.ref f23) = true)
    {od24 an24 : Option Addr} {sl24 : Array (Option Value)} {oc24 kV24 dc24 pm24 cd24 ct24 : Value}
    (a24 : PySem.W.nsIn K mainGlobals "_law_gone" = some (some (.ref f24))) (l24 : K.lookup f24 = some ⟨oc24, od24, .func (PySem.W.fnOf "_law_gone" "_law_gone" (defArgs s__law_gone) (defBody s__law_gone) (defScope s__law_gone) .none kV24 dc24 pm24 an24 cd24 ct24), sl24⟩) (c24 : PySem.W.codeIn K cd24 "_law_gone" = true) (k24 : PySem.W.keepIn K (.ref f24) = true)
    {od25 an25 : Option Addr} {sl25 : Array (Option Value)} {oc25 kV25 dc25 pm25 cd25 ct25 : Value}
    (a25 : PySem.W.nsIn K mainGlobals "_law_early" = some (some (.ref f25))) (l25 : K.lookup f25 = some ⟨oc25, od25, .func (PySem.W.fnOf "_law_early" "_law_early" (defArgs s__law_early) (defBody s__law_early) (defScope s__law_early) .none kV25 dc25 pm25 an25 cd25 ct25), sl25⟩) (c25 : PySem.W.codeIn K cd25 "_law_early" = true) (k25 : PySem.W.keepIn K (.ref f25) = true)
    {od26 an26 : Option Addr} {sl26 : Array (Option Value)} {oc26 kV26 dc26 pm26 cd26 ct26 : Value}
    (a26 : PySem.W.nsIn K mainGlobals "_law_right" = some (some (.ref f26))) (l26 : K.lookup f26 = some ⟨oc26, od26, .func (PySem.W.fnOf "_law_right" "_law_right" (defArgs s__law_right) (defBody s__law_right) (defScope s__law_right) .none kV26 dc26 pm26 an26 cd26 ct26), sl26⟩) (c26 : PySem.W.codeIn K cd26 "_law_right" = true) (k26 : PySem.W.keepIn K (.ref f26) = true)
    {od27 an27 : Option Addr} {sl27 : Array (Option Value)} {oc27 kV27 dc27 pm27 cd27 ct27 : Value}
    (a27 : PySem.W.nsIn K mainGlobals "law" = some (some (.ref f27))) (l27 : K.lookup f27 = some ⟨oc27, od27, .func (PySem.W.fnOf "law" "law" (defArgs s_law) (defBody s_law) (defScope s_law) .none kV27 dc27 pm27 an27 cd27 ct27), sl27⟩) (c27 : PySem.W.codeIn K cd27 "law" = true) (k27 : PySem.W.keepIn K (.ref f27) = true)
    {C g0 g1 g2 g3 g4 g5 g6 g7 g8 g9 g10 g11 g12 : Addr} (aC : PySem.W.nsIn K mainGlobals "Carried" = some (some (.ref C)))
    {odm0 anm0 : Option Addr} {slm0 : Array (Option Value)} {ocm0 kVm0 dcm0 pmm0 cdm0 ctm0 : Value}
    (am0 : PySem.W.findIn K (.ref C) "__init__" = some (some (.ref g0))) (im0 : PySem.W.isFn K (.ref g0) = true) (lm0 : K.lookup g0 = some ⟨ocm0, odm0, .func (PySem.W.fnOf "__init__" "Carried.__init__" (defArgs s_Carried___init__) (defBody s_Carried___init__) (defScope s_Carried___init__) .none kVm0 dcm0 pmm0 anm0 cdm0 ctm0), slm0⟩) (cm0 : PySem.W.codeIn K cdm0 "Carried.__init__" = true) (km0 : PySem.W.keepIn K (.ref g0) = true)
    {odm1 anm1 : Option Addr} {slm1 : Array (Option Value)} {ocm1 kVm1 dcm1 pmm1 cdm1 ctm1 : Value}
    (am1 : PySem.W.findIn K (.ref C) "need_going" = some (some (.ref g1))) (im1 : PySem.W.isFn K (.ref g1) = true) (lm1 : K.lookup g1 = some ⟨ocm1, odm1, .func (PySem.W.fnOf "need_going" "Carried.need_going" (defArgs s_Carried_need_going) (defBody s_Carried_need_going) (defScope s_Carried_need_going) .none kVm1 dcm1 pmm1 anm1 cdm1 ctm1), slm1⟩) (cm1 : PySem.W.codeIn K cdm1 "Carried.need_going" = true) (km1 : PySem.W.keepIn K (.ref g1) = true)
    {odm2 anm2 : Option Addr} {slm2 : Array (Option Value)} {ocm2 kVm2 dcm2 pmm2 cdm2 ctm2 : Value}
    (am2 : PySem.W.findIn K (.ref C) "need_still" = some (some (.ref g2))) (im2 : PySem.W.isFn K (.ref g2) = true) (lm2 : K.lookup g2 = some ⟨ocm2, odm2, .func (PySem.W.fnOf "need_still" "Carried.need_still" (defArgs s_Carried_need_still) (defBody s_Carried_need_still) (defScope s_Carried_need_still) .none kVm2 dcm2 pmm2 anm2 cdm2 ctm2), slm2⟩) (cm2 : PySem.W.codeIn K cdm2 "Carried.need_still" = true) (km2 : PySem.W.keepIn K (.ref g2) = true)
    {odm3 anm3 : Option Addr} {slm3 : Array (Option Value)} {ocm3 kVm3 dcm3 pmm3 cdm3 ctm3 : Value}
    (am3 : PySem.W.findIn K (.ref C) "left" = some (some (.ref g3))) (im3 : PySem.W.isFn K (.ref g3) = true) (lm3 : K.lookup g3 = some ⟨ocm3, odm3, .func (PySem.W.fnOf "left" "Carried.left" (defArgs s_Carried_left) (defBody s_Carried_left) (defScope s_Carried_left) .none kVm3 dcm3 pmm3 anm3 cdm3 ctm3), slm3⟩) (cm3 : PySem.W.codeIn K cdm3 "Carried.left" = true) (km3 : PySem.W.keepIn K (.ref g3) = true)
    {odm4 anm4 : Option Addr} {slm4 : Array (Option Value)} {ocm4 kVm4 dcm4 pmm4 cdm4 ctm4 : Value}
    (am4 : PySem.W.findIn K (.ref C) "goes_on" = some (some (.ref g4))) (im4 : PySem.W.isFn K (.ref g4) = true) (lm4 : K.lookup g4 = some ⟨ocm4, odm4, .func (PySem.W.fnOf "goes_on" "Carried.goes_on" (defArgs s_Carried_goes_on) (defBody s_Carried_goes_on) (defScope s_Carried_goes_on) .none kVm4 dcm4 pmm4 anm4 cdm4 ctm4), slm4⟩) (cm4 : PySem.W.codeIn K cdm4 "Carried.goes_on" = true) (km4 : PySem.W.keepIn K (.ref g4) = true)
    {odm5 anm5 : Option Addr} {slm5 : Array (Option Value)} {ocm5 kVm5 dcm5 pmm5 cdm5 ctm5 : Value}
    (am5 : PySem.W.findIn K (.ref C) "tick" = some (some (.ref g5))) (im5 : PySem.W.isFn K (.ref g5) = true) (lm5 : K.lookup g5 = some ⟨ocm5, odm5, .func (PySem.W.fnOf "tick" "Carried.tick" (defArgs s_Carried_tick) (defBody s_Carried_tick) (defScope s_Carried_tick) .none kVm5 dcm5 pmm5 anm5 cdm5 ctm5), slm5⟩) (cm5 : PySem.W.codeIn K cdm5 "Carried.tick" = true) (km5 : PySem.W.keepIn K (.ref g5) = true)
    {odm6 anm6 : Option Addr} {slm6 : Array (Option Value)} {ocm6 kVm6 dcm6 pmm6 cdm6 ctm6 : Value}
    (am6 : PySem.W.findIn K (.ref C) "begin" = some (some (.ref g6))) (im6 : PySem.W.isFn K (.ref g6) = true) (lm6 : K.lookup g6 = some ⟨ocm6, odm6, .func (PySem.W.fnOf "begin" "Carried.begin" (defArgs s_Carried_begin) (defBody s_Carried_begin) (defScope s_Carried_begin) .none kVm6 dcm6 pmm6 anm6 cdm6 ctm6), slm6⟩) (cm6 : PySem.W.codeIn K cdm6 "Carried.begin" = true) (km6 : PySem.W.keepIn K (.ref g6) = true)
    {odm7 anm7 : Option Addr} {slm7 : Array (Option Value)} {ocm7 kVm7 dcm7 pmm7 cdm7 ctm7 : Value}
    (am7 : PySem.W.findIn K (.ref C) "copy" = some (some (.ref g7))) (im7 : PySem.W.isFn K (.ref g7) = true) (lm7 : K.lookup g7 = some ⟨ocm7, odm7, .func (PySem.W.fnOf "copy" "Carried.copy" (defArgs s_Carried_copy) (defBody s_Carried_copy) (defScope s_Carried_copy) .none kVm7 dcm7 pmm7 anm7 cdm7 ctm7), slm7⟩) (cm7 : PySem.W.codeIn K cdm7 "Carried.copy" = true) (km7 : PySem.W.keepIn K (.ref g7) = true)
    {odm8 anm8 : Option Addr} {slm8 : Array (Option Value)} {ocm8 kVm8 dcm8 pmm8 cdm8 ctm8 : Value}
    (am8 : PySem.W.findIn K (.ref C) "stop" = some (some (.ref g8))) (im8 : PySem.W.isFn K (.ref g8) = true) (lm8 : K.lookup g8 = some ⟨ocm8, odm8, .func (PySem.W.fnOf "stop" "Carried.stop" (defArgs s_Carried_stop) (defBody s_Carried_stop) (defScope s_Carried_stop) .none kVm8 dcm8 pmm8 anm8 cdm8 ctm8), slm8⟩) (cm8 : PySem.W.codeIn K cdm8 "Carried.stop" = true) (km8 : PySem.W.keepIn K (.ref g8) = true)
    {odm9 anm9 : Option Addr} {slm9 : Array (Option Value)} {ocm9 kVm9 dcm9 pmm9 cdm9 ctm9 : Value}
    (am9 : PySem.W.findIn K (.ref C) "early" = some (some (.ref g9))) (im9 : PySem.W.isFn K (.ref g9) = true) (lm9 : K.lookup g9 = some ⟨ocm9, odm9, .func (PySem.W.fnOf "early" "Carried.early" (defArgs s_Carried_early) (defBody s_Carried_early) (defScope s_Carried_early) .none kVm9 dcm9 pmm9 anm9 cdm9 ctm9), slm9⟩) (cm9 : PySem.W.codeIn K cdm9 "Carried.early" = true) (km9 : PySem.W.keepIn K (.ref g9) = true)
    {odm10 anm10 : Option Addr} {slm10 : Array (Option Value)} {ocm10 kVm10 dcm10 pmm10 cdm10 ctm10 : Value}
    (am10 : PySem.W.findIn K (.ref C) "now" = some (some (.ref g10))) (im10 : PySem.W.isFn K (.ref g10) = true) (lm10 : K.lookup g10 = some ⟨ocm10, odm10, .func (PySem.W.fnOf "now" "Carried.now" (defArgs s_Carried_now) (defBody s_Carried_now) (defScope s_Carried_now) .none kVm10 dcm10 pmm10 anm10 cdm10 ctm10), slm10⟩) (cm10 : PySem.W.codeIn K cdm10 "Carried.now" = true) (km10 : PySem.W.keepIn K (.ref g10) = true)
    {odm11 anm11 : Option Addr} {slm11 : Array (Option Value)} {ocm11 kVm11 dcm11 pmm11 cdm11 ctm11 : Value}
    (am11 : PySem.W.findIn K (.ref C) "ticks" = some (some (.ref g11))) (im11 : PySem.W.isFn K (.ref g11) = true) (lm11 : K.lookup g11 = some ⟨ocm11, odm11, .func (PySem.W.fnOf "ticks" "Carried.ticks" (defArgs s_Carried_ticks) (defBody s_Carried_ticks) (defScope s_Carried_ticks) .none kVm11 dcm11 pmm11 anm11 cdm11 ctm11), slm11⟩) (cm11 : PySem.W.codeIn K cdm11 "Carried.ticks" = true) (km11 : PySem.W.keepIn K (.ref g11) = true)
    {odm12 anm12 : Option Addr} {slm12 : Array (Option Value)} {ocm12 kVm12 dcm12 pmm12 cdm12 ctm12 : Value}
    (am12 : PySem.W.findIn K (.ref C) "bring" = some (some (.ref g12))) (im12 : PySem.W.isFn K (.ref g12) = true) (lm12 : K.lookup g12 = some ⟨ocm12, odm12, .func (PySem.W.fnOf "bring" "Carried.bring" (defArgs s_Carried_bring) (defBody s_Carried_bring) (defScope s_Carried_bring) .none kVm12 dcm12 pmm12 anm12 cdm12 ctm12), slm12⟩) (cm12 : PySem.W.codeIn K cdm12 "Carried.bring" = true) (km12 : PySem.W.keepIn K (.ref g12) = true)
    (pg : PySem.W.plainGet K C Str.empty = true) (hd : PySem.W.hasDictIn K C = true) (po : PySem.W.plainOver K C = true) (sa : PySem.W.findIn K (.ref C) "__setattr__" = some (some (.builtin "object.__setattr__"))) (mk : PySem.W.makesIn K C = true) (kc : PySem.W.keepIn K (.ref C) = true)
    (nf0 : PySem.W.findIn K (.ref C) "program" = some none)
    (nf1 : PySem.W.findIn K (.ref C) "stand" = some none)
    (nf2 : PySem.W.findIn K (.ref C) "houses" = some none)
    (nf3 : PySem.W.findIn K (.ref C) "place" = some none)
    (nf4 : PySem.W.findIn K (.ref C) "waiting" = some none)
    (nf5 : PySem.W.findIn K (.ref C) "spoken" = some none)
    (nf6 : PySem.W.findIn K (.ref C) "done" = some none)
    (nf7 : PySem.W.findIn K (.ref C) "goal" = some none)
    (nf8 : PySem.W.findIn K (.ref C) "is_still" = some none)
    (nf9 : PySem.W.findIn K (.ref C) "fresh" = some none)
    (nf10 : PySem.W.findIn K (.ref C) "made" = some none)
    (nf11 : PySem.W.findIn K (.ref C) "absent" = some none)
    (al0 : PySem.W.nsIn K mainGlobals "tick_ticks" = some (some (.ref f6)))
    {q_noStep : Addr}
    (xn_noStep : PySem.W.nsIn K mainGlobals "NoStep" = some (some (.ref q_noStep))) (xt_noStep : PySem.W.typeIn K (.ref q_noStep) = some (.type "type")) (xb_noStep : PySem.W.subIn K (.ref q_noStep) (.type "BaseException") = some true) (xd_noStep : PySem.W.hasDictIn K q_noStep = true)
    (xx_noStep : PySem.W.excIn K q_noStep [.type "ValueError", .type "Exception", .type "BaseException", .type "object"] "ValueError.__new__" = true) (xk_noStep : PySem.W.keepIn K (.ref q_noStep) = true) (xg_noStep : PySem.W.findIn K (.ref q_noStep) "__getattribute__" = some (some (.builtin "BaseException.__getattribute__"))) (xh_noStep : PySem.W.findIn K (.ref q_noStep) "__getattr__" = some none) (xl_noStep : PySem.W.findIn K (.ref q_noStep) "__class__" = some (some (.builtin "object.__class__"))) (xm_noStep : PySem.W.mroIn K q_noStep (.type "object") = some true)
    (xs_noStep : PySem.W.subIn K (.ref q_noStep) (.ref q_noStep) = some true)
    (xsp : PySem.W.specialIn K (.builtin "object.__class__") "__get__" = some (some (.builtin "getset_descriptor.__get__"))) (xtk : PySem.W.takesIn K (.builtin "object.__class__") = some true)
    (xr_noStep_noStep : PySem.W.subIn K (.ref q_noStep) (.ref q_noStep) = some true)
    (z0 : PySem.W.nsIn K mainGlobals "enumerate" = some none)
    (z1 : PySem.W.nsIn K mainGlobals "int" = some none)
    (z2 : PySem.W.nsIn K mainGlobals "len" = some none)
    (z3 : PySem.W.nsIn K mainGlobals "list" = some none)
    (z4 : PySem.W.nsIn K mainGlobals "range" = some none)
    (z5 : PySem.W.nsIn K mainGlobals "set" = some none)
    (z6 : PySem.W.nsIn K mainGlobals "sorted" = some none)
    (z7 : PySem.W.nsIn K mainGlobals "tuple" = some none)
    : ∃ fd : FuncData, (∀ (s : Shared) (v : Value), BindsTo s fd ⟨[v], []⟩ [("script", v)]) ∧ ∀ base : Heap, K.In base → base.Ns mainGlobals mg → FnOk l.prog w K mg base CX0 7 fa fd ["script"] (spLaw K) := by
  have na : ∀ k ∈ carK, NoAttr K C k := fun k hk => by
    simp only [carK,  List.mem_cons, List.mem_nil_iff, or_false] at hk
    rcases hk with e | e | e | e | e | e | e | e | e | e | e | e
    · rw [e]; exact nf0
    · rw [e]; exact nf1
    · rw [e]; exact nf2
    · rw [e]; exact nf3
    · rw [e]; exact nf4
    · rw [e]; exact nf5
    · rw [e]; exact nf6
    · rw [e]; exact nf7
    · rw [e]; exact nf8
    · rw [e]; exact nf9
    · rw [e]; exact nf10
    · rw [e]; exact nf11
  have T : Tx K mg C (xY 0 0 0 q_noStep 0 0 0) := ⟨⟨pg, hd, po, sa⟩, na, ⟨g0, _, ⟨mk, am0, im0, kc⟩, fun_mk (st := s_Carried___init__) lm0 cm0 km0, (fun_mk (st := s_Carried___init__) lm0 cm0 km0).binds (fun _ _ _ _ _ _ us hl => match us, hl with | [_, _, _, _], _ => rfl), PySem.W.mg_of X G aC⟩, ⟨g1, _, ⟨am1, im1, km1⟩, fun_mk (st := s_Carried_need_going) lm1 cm1 km1, (fun_mk (st := s_Carried_need_going) lm1 cm1 km1).binds (fun _ _ _ _ _ _ us hl => match us, hl with | [_], _ => rfl)⟩, ⟨g2, _, ⟨am2, im2, km2⟩, fun_mk (st := s_Carried_need_still) lm2 cm2 km2, (fun_mk (st := s_Carried_need_still) lm2 cm2 km2).binds (fun _ _ _ _ _ _ us hl => match us, hl with | [_], _ => rfl)⟩, ⟨g3, _, ⟨am3, im3, km3⟩, fun_mk (st := s_Carried_left) lm3 cm3 km3, (fun_mk (st := s_Carried_left) lm3 cm3 km3).binds (fun _ _ _ _ _ _ us hl => match us, hl with | [_], _ => rfl)⟩, ⟨g4, _, ⟨am4, im4, km4⟩, fun_mk (st := s_Carried_goes_on) lm4 cm4 km4, (fun_mk (st := s_Carried_goes_on) lm4 cm4 km4).binds (fun _ _ _ _ _ _ us hl => match us, hl with | [_], _ => rfl)⟩, ⟨g5, _, ⟨am5, im5, km5⟩, fun_mk (st := s_Carried_tick) lm5 cm5 km5, (fun_mk (st := s_Carried_tick) lm5 cm5 km5).binds (fun _ _ _ _ _ _ us hl => match us, hl with | [_], _ => rfl)⟩, ⟨g6, _, ⟨am6, im6, km6⟩, fun_mk (st := s_Carried_begin) lm6 cm6 km6, (fun_mk (st := s_Carried_begin) lm6 cm6 km6).binds (fun _ _ _ _ _ _ us hl => match us, hl with | [_, _], _ => rfl)⟩, ⟨g7, _, ⟨am7, im7, km7⟩, fun_mk (st := s_Carried_copy) lm7 cm7 km7, (fun_mk (st := s_Carried_copy) lm7 cm7 km7).binds (fun _ _ _ _ _ _ us hl => match us, hl with | [_, _], _ => rfl)⟩, ⟨g8, _, ⟨am8, im8, km8⟩, fun_mk (st := s_Carried_stop) lm8 cm8 km8, (fun_mk (st := s_Carried_stop) lm8 cm8 km8).binds (fun _ _ _ _ _ _ us hl => match us, hl with | [_], _ => rfl)⟩, ⟨g9, _, ⟨am9, im9, km9⟩, fun_mk (st := s_Carried_early) lm9 cm9 km9, (fun_mk (st := s_Carried_early) lm9 cm9 km9).binds (fun _ _ _ _ _ _ us hl => match us, hl with | [_], _ => rfl)⟩, ⟨g10, _, ⟨am10, im10, km10⟩, fun_mk (st := s_Carried_now) lm10 cm10 km10, (fun_mk (st := s_Carried_now) lm10 cm10 km10).binds (fun _ _ _ _ _ _ us hl => match us, hl with | [_], _ => rfl)⟩, ⟨g11, _, ⟨am11, im11, km11⟩, fun_mk (st := s_Carried_ticks) lm11 cm11 km11, (fun_mk (st := s_Carried_ticks) lm11 cm11 km11).binds (fun _ _ _ _ _ _ us hl => match us, hl with | [_], _ => rfl)⟩, ⟨g12, _, ⟨am12, im12, km12⟩, fun_mk (st := s_Carried_bring) lm12 cm12 km12, (fun_mk (st := s_Carried_bring) lm12 cm12 km12).binds (fun _ _ _ _ _ _ us hl => match us, hl with | [_, _], _ => rfl)⟩, (PySem.W.mg_of X G al0).trans (PySem.W.mg_of X G a6).symm, def_mk X G a1 l1 c1 k1 (fun _ _ _ _ _ _ us hl => match us, hl with | [_, _], _ => rfl), def_mk X G a2 l2 c2 k2 (fun _ _ _ _ _ _ us hl => match us, hl with | [_], _ => rfl), def_mk X G a3 l3 c3 k3 (fun _ _ _ _ _ _ us hl => match us, hl with | [_], _ => rfl), def_mk X G a4 l4 c4 k4 (fun _ _ _ _ _ _ us hl => match us, hl with | [_, _, _], _ => rfl), def_mk X G a5 l5 c5 k5 (fun _ _ _ _ _ _ us hl => match us, hl with | [_, _, _, _], _ => rfl), def_mk X G a6 l6 c6 k6 (fun _ _ _ _ _ _ us hl => match us, hl with | [_, _, _], _ => rfl), def_mk X G a7 l7 c7 k7 (fun _ _ _ _ _ _ us hl => match us, hl with | [_, _], _ => rfl), def_mk X G a8 l8 c8 k8 (fun _ _ _ _ _ _ us hl => match us, hl with | [_, _], _ => rfl), def_mk X G a9 l9 c9 k9 (fun _ _ _ _ _ _ us hl => match us, hl with | [_, _, _], _ => rfl), def_mk X G a10 l10 c10 k10 (fun _ _ _ _ _ _ us hl => match us, hl with | [_, _, _], _ => rfl), def_mk X G a11 l11 c11 k11 (fun _ _ _ _ _ _ us hl => match us, hl with | [_, _, _], _ => rfl), def_mk X G a12 l12 c12 k12 (fun _ _ _ _ _ _ us hl => match us, hl with | [_, _], _ => rfl), def_mk X G a13 l13 c13 k13 (fun _ _ _ _ _ _ us hl => match us, hl with | [_, _, _, _], _ => rfl), def_mk X G a14 l14 c14 k14 (fun _ _ _ _ _ _ us hl => match us, hl with | [_, _, _, _], _ => rfl), def_mk X G a15 l15 c15 k15 (fun _ _ _ _ _ _ us hl => match us, hl with | [_, _, _, _], _ => rfl), def_mk X G a16 l16 c16 k16 (fun _ _ _ _ _ _ us hl => match us, hl with | [_], _ => rfl), def_mk X G a17 l17 c17 k17 (fun _ _ _ _ _ _ us hl => match us, hl with | [_, _], _ => rfl), def_mk X G a18 l18 c18 k18 (fun _ _ _ _ _ _ us hl => match us, hl with | [_, _, _, _, _], _ => rfl), def_mk X G a19 l19 c19 k19 (fun _ _ _ _ _ _ us hl => match us, hl with | [_, _], _ => rfl), def_mk X G a20 l20 c20 k20 (fun _ _ _ _ _ _ us hl => match us, hl with | [_, _], _ => rfl), def_mk X G a21 l21 c21 k21 (fun _ _ _ _ _ _ us hl => match us, hl with | [_, _], _ => rfl), def_mk X G a22 l22 c22 k22 (fun _ _ _ _ _ _ us hl => match us, hl with | [_, _], _ => rfl), def_mk X G a23 l23 c23 k23 (fun _ _ _ _ _ _ us hl => match us, hl with | [_, _], _ => rfl), def_mk X G a24 l24 c24 k24 (fun _ _ _ _ _ _ us hl => match us, hl with | [_, _, _, _], _ => rfl), def_mk X G a25 l25 c25 k25 (fun _ _ _ _ _ _ us hl => match us, hl with | [_, _, _], _ => rfl), def_mk X G a26 l26 c26 k26 (fun _ _ _ _ _ _ us hl => match us, hl with | [_, _, _, _], _ => rfl), def_mk X G a27 l27 c27 k27 (fun _ _ _ _ _ _ us hl => match us, hl with | [_], _ => rfl), PySem.W.mg_none_of X G z0, PySem.W.mg_none_of X G z1, PySem.W.mg_none_of X G z2, PySem.W.mg_none_of X G z3, PySem.W.mg_none_of X G z4, PySem.W.mg_none_of X G z5, PySem.W.mg_none_of X G z6, PySem.W.mg_none_of X G z7, ⟨PySem.W.mg_of X G xn_noStep, xx_noStep, xk_noStep, xt_noStep, xg_noStep, xh_noStep, xb_noStep, xd_noStep, xl_noStep, xsp, xtk, xm_noStep⟩, ⟨PySem.W.mg_of X G xn_noStep, xt_noStep, xb_noStep, xd_noStep, xs_noStep⟩, xr_noStep_noStep⟩
  have e := hfa.symm.trans (PySem.W.mg_of X G a27)
  cases e
  exact ⟨PySem.W.fnOf "law" "law" (defArgs s_law) (defBody s_law) (defScope s_law) .none kV27 dc27 pm27 an27 cd27 ct27, fun s v => .of_eq rfl, fun base _ _ => all_ok T (fun_mk (st := s_law) l27 c27 k27)⟩
end L50
open PySem PySem.W PyProof.Rows in
set_option maxRecDepth 100000 in
set_option maxHeartbeats 0 in
theorem PySem.Challenge.cw_warmove_k50_whole_fetched_while_it_runs_holds : PySem.Challenge.rw_warmove_k50_whole_fetched_while_it_runs.Holds := by
  w_on; o_law; k_head; (case hw => w_witness2)
  k_fill
  refine L2.walk_of (l := PySem.Challenge.rw_warmove_k50_whole_fetched_while_it_runs) (n := 63) (k := 7) (x := "script") (CX := fun _ => L2.CX0) (sp := fun w => GL.spLaw _) rfl (by decide) rfl ⟨rfl, by decide, by decide⟩ (fun w h Y => PySem.W.kIn_of Y) ?F (fun _ _ a ns hl _ hS => ⟨a, ns, rfl, hS, hl, fun _ => rfl⟩) (fun _ _ _ _ _ h => h)
  case F =>
    intro w mg fa h KX G hmg
    refine' L50.all_mk KX G hmg ?a1 ?l1 ?c1 ?k1 ?a2 ?l2 ?c2 ?k2 ?a3 ?l3 ?c3 ?k3 ?a4 ?l4 ?c4 ?k4 ?a5 ?l5 ?c5 ?k5 ?a6 ?l6 ?c6 ?k6 ?a7 ?l7 ?c7 ?k7 ?a8 ?l8 ?c8 ?k8 ?a9 ?l9 ?c9 ?k9 ?a10 ?l10 ?c10 ?k10 ?a11 ?l11 ?c11 ?k11 ?a12 ?l12 ?c12 ?k12 ?a13 ?l13 ?c13 ?k13 ?a14 ?l14 ?c14 ?k14 ?a15 ?l15 ?c15 ?k15 ?a16 ?l16 ?c16 ?k16 ?a17 ?l17 ?c17 ?k17 ?a18 ?l18 ?c18 ?k18 ?a19 ?l19 ?c19 ?k19 ?a20 ?l20 ?c20 ?k20 ?a21 ?l21 ?c21 ?k21 ?a22 ?l22 ?c22 ?k22 ?a23 ?l23 ?c23 ?k23 ?a24 ?l24 ?c24 ?k24 ?a25 ?l25 ?c25 ?k25 ?a26 ?l26 ?c26 ?k26 ?a27 ?l27 ?c27 ?k27 ?aC ?am0 ?im0 ?lm0 ?cm0 ?km0 ?am1 ?im1 ?lm1 ?cm1 ?km1 ?am2 ?im2 ?lm2 ?cm2 ?km2 ?am3 ?im3 ?lm3 ?cm3 ?km3 ?am4 ?im4 ?lm4 ?cm4 ?km4 ?am5 ?im5 ?lm5 ?cm5 ?km5 ?am6 ?im6 ?lm6 ?cm6 ?km6 ?am7 ?im7 ?lm7 ?cm7 ?km7 ?am8 ?im8 ?lm8 ?cm8 ?km8 ?am9 ?im9 ?lm9 ?cm9 ?km9 ?am10 ?im10 ?lm10 ?cm10 ?km10 ?am11 ?im11 ?lm11 ?cm11 ?km11 ?am12 ?im12 ?lm12 ?cm12 ?km12 ?pg ?hd ?po ?sa ?mk ?kc ?nf0 ?nf1 ?nf2 ?nf3 ?nf4 ?nf5 ?nf6 ?nf7 ?nf8 ?nf9 ?nf10 ?nf11 ?al0 ?xn_noStep ?xt_noStep ?xb_noStep ?xd_noStep ?xx_noStep ?xk_noStep ?xg_noStep ?xh_noStep ?xl_noStep ?xm_noStep ?xs_noStep ?xsp ?xtk ?xr_noStep_noStep ?z0 ?z1 ?z2 ?z3 ?z4 ?z5 ?z6 ?z7
    (case a1 => k_is)
    (case l1 => k_is)
    (case c1 => k_is)
    (case k1 => k_is)
    (case a2 => k_is)
    (case l2 => k_is)
    (case c2 => k_is)
    (case k2 => k_is)
    (case a3 => k_is)
    (case l3 => k_is)
    (case c3 => k_is)
    (case k3 => k_is)
    (case a4 => k_is)
    (case l4 => k_is)
    (case c4 => k_is)
    (case k4 => k_is)
    (case a5 => k_is)
    (case l5 => k_is)
    (case c5 => k_is)
    (case k5 => k_is)
    (case a6 => k_is)
    (case l6 => k_is)
    (case c6 => k_is)
    (case k6 => k_is)
    (case a7 => k_is)
    (case l7 => k_is)
    (case c7 => k_is)
    (case k7 => k_is)
    (case a8 => k_is)
    (case l8 => k_is)
    (case c8 => k_is)
    (case k8 => k_is)
    (case a9 => k_is)
    (case l9 => k_is)
    (case c9 => k_is)
    (case k9 => k_is)
    (case a10 => k_is)
    (case l10 => k_is)
    (case c10 => k_is)
    (case k10 => k_is)
    (case a11 => k_is)
    (case l11 => k_is)
    (case c11 => k_is)
    (case k11 => k_is)
    (case a12 => k_is)
    (case l12 => k_is)
    (case c12 => k_is)
    (case k12 => k_is)
    (case a13 => k_is)
    (case l13 => k_is)
    (case c13 => k_is)
    (case k13 => k_is)
    (case a14 => k_is)
    (case l14 => k_is)
    (case c14 => k_is)
    (case k14 => k_is)
    (case a15 => k_is)
    (case l15 => k_is)
    (case c15 => k_is)
    (case k15 => k_is)
    (case a16 => k_is)
    (case l16 => k_is)
    (case c16 => k_is)
    (case k16 => k_is)
    (case a17 => k_is)
    (case l17 => k_is)
    (case c17 => k_is)
    (case k17 => k_is)
    (case a18 => k_is)
    (case l18 => k_is)
    (case c18 => k_is)
    (case k18 => k_is)
    (case a19 => k_is)
    (case l19 => k_is)
    (case c19 => k_is)
    (case k19 => k_is)
    (case a20 => k_is)
    (case l20 => k_is)
    (case c20 => k_is)
    (case k20 => k_is)
    (case a21 => k_is)
    (case l21 => k_is)
    (case c21 => k_is)
    (case k21 => k_is)
    (case a22 => k_is)
    (case l22 => k_is)
    (case c22 => k_is)
    (case k22 => k_is)
    (case a23 => k_is)
    (case l23 => k_is)
    (case c23 => k_is)
    (case k23 => k_is)
    (case a24 => k_is)
    (case l24 => k_is)
    (case c24 => k_is)
    (case k24 => k_is)
    (case a25 => k_is)
    (case l25 => k_is)
    (case c25 => k_is)
    (case k25 => k_is)
    (case a26 => k_is)
    (case l26 => k_is)
    (case c26 => k_is)
    (case k26 => k_is)
    (case a27 => k_is)
    (case l27 => k_is)
    (case c27 => k_is)
    (case k27 => k_is)
    (case aC => k_is)
    (case am0 => k_is)
    (case im0 => k_is)
    (case lm0 => k_is)
    (case cm0 => k_is)
    (case km0 => k_is)
    (case am1 => k_is)
    (case im1 => k_is)
    (case lm1 => k_is)
    (case cm1 => k_is)
    (case km1 => k_is)
    (case am2 => k_is)
    (case im2 => k_is)
    (case lm2 => k_is)
    (case cm2 => k_is)
    (case km2 => k_is)
    (case am3 => k_is)
    (case im3 => k_is)
    (case lm3 => k_is)
    (case cm3 => k_is)
    (case km3 => k_is)
    (case am4 => k_is)
    (case im4 => k_is)
    (case lm4 => k_is)
    (case cm4 => k_is)
    (case km4 => k_is)
    (case am5 => k_is)
    (case im5 => k_is)
    (case lm5 => k_is)
    (case cm5 => k_is)
    (case km5 => k_is)
    (case am6 => k_is)
    (case im6 => k_is)
    (case lm6 => k_is)
    (case cm6 => k_is)
    (case km6 => k_is)
    (case am7 => k_is)
    (case im7 => k_is)
    (case lm7 => k_is)
    (case cm7 => k_is)
    (case km7 => k_is)
    (case am8 => k_is)
    (case im8 => k_is)
    (case lm8 => k_is)
    (case cm8 => k_is)
    (case km8 => k_is)
    (case am9 => k_is)
    (case im9 => k_is)
    (case lm9 => k_is)
    (case cm9 => k_is)
    (case km9 => k_is)
    (case am10 => k_is)
    (case im10 => k_is)
    (case lm10 => k_is)
    (case cm10 => k_is)
    (case km10 => k_is)
    (case am11 => k_is)
    (case im11 => k_is)
    (case lm11 => k_is)
    (case cm11 => k_is)
    (case km11 => k_is)
    (case am12 => k_is)
    (case im12 => k_is)
    (case lm12 => k_is)
    (case cm12 => k_is)
    (case km12 => k_is)
    (case pg => k_is)
    (case hd => k_is)
    (case po => k_is)
    (case sa => k_is)
    (case mk => k_is)
    (case kc => k_is)
    (case nf0 => k_is)
    (case nf1 => k_is)
    (case nf2 => k_is)
    (case nf3 => k_is)
    (case nf4 => k_is)
    (case nf5 => k_is)
    (case nf6 => k_is)
    (case nf7 => k_is)
    (case nf8 => k_is)
    (case nf9 => k_is)
    (case nf10 => k_is)
    (case nf11 => k_is)
    (case al0 => k_is)
    (case xn_noStep => k_is)
    (case xt_noStep => k_is)
    (case xb_noStep => k_is)
    (case xd_noStep => k_is)
    (case xx_noStep => k_exc)
    (case xk_noStep => k_is)
    (case xg_noStep => k_is)
    (case xh_noStep => k_is)
    (case xl_noStep => k_is)
    (case xm_noStep => k_is)
    (case xs_noStep => k_is)
    (case xsp => k_is)
    (case xtk => k_is)
    (case xr_noStep_noStep => k_is)
    (case z0 => k_is)
    (case z1 => k_is)
    (case z2 => k_is)
    (case z3 => k_is)
    (case z4 => k_is)
    (case z5 => k_is)
    (case z6 => k_is)
    (case z7 => k_is)
#print axioms PySem.Challenge.cw_warmove_k50_whole_fetched_while_it_runs_holds
