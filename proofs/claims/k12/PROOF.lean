import PyProof.Rows.All
import Wide.All
import OpenK.AllK
import Wide.FinOn
import HandS.ForMost
import HandS.Evl
import HandS.Conv
import HandS.More
import HandS.SortInts
import HandS.IsInst
import HandS.TupMul
import HandS.TupAny
import HandS.TupSets
import HandS.SetFor
import HandS.List
import KE.KSortTupG
import KE.KSortTupUse
import HandS.Style
import HandS.Wide
import HandS.TupLe
import HandS.Zip
import HandS.DictComp
import KE.GoesMore
import KE.GoesEnum
import PyProof.TupleCall
import HandS.Dict
import HandS.DictTup
import PySem.Challenge.RW_warmove_k12_whole_rounds_and_plans
set_option Elab.async false
set_option linter.all false
set_option maxRecDepth 100000
namespace GL
open PySem L2
abbrev Fg := PySem.W.Frag
class Py (α : Type) where
  rep : Fg → Hp → V → α → Prop
  mono : ∀ {K : Fg} {H H' : Hp} {v : V} {x : α}, Same H H' → rep K H v x → rep K H' v x
instance : Py Int := ⟨fun _ _ v x => v = .int x, fun _ h => h⟩
instance : Py Bool := ⟨fun _ _ v x => v = .bl x, fun _ h => h⟩
instance : Py Str := ⟨fun _ _ v x => v = .str x, fun _ h => h⟩
instance : Py Unit := ⟨fun _ _ v _ => v = .non, fun _ h => h⟩
def RepL {α : Type} [Py α] (K : Fg) (S : Hp) : List V → List α → Prop
  | [], [] => True
  | v :: vs, x :: xs => Py.rep K S v x ∧ RepL K S vs xs
  | _, _ => False
section
variable {α : Type} [Py α] {K : Fg} {S S' : Hp}
theorem RepL.mono (e : Same S S') : ∀ {vs : List V} {xs : List α}, RepL K S vs xs → RepL K S' vs xs
  | [], [], _ => True.intro
  | _ :: _, _ :: _, h => ⟨Py.mono e h.1, RepL.mono e h.2⟩
  | [], _ :: _, h => h.elim
  | _ :: _, [], h => h.elim
theorem RepL.len : ∀ {vs : List V} {xs : List α}, RepL K S vs xs → vs.length = xs.length
  | [], [], _ => rfl
  | _ :: vs, _ :: xs, h => by rw [List.length_cons, List.length_cons, RepL.len h.2]
  | [], _ :: _, h => h.elim
  | _ :: _, [], h => h.elim
theorem RepL.app : ∀ {vs ws : List V} {xs ys : List α}, RepL K S vs xs → RepL K S ws ys → RepL K S (vs ++ ws) (xs ++ ys)
  | [], _, [], _, _, h => h
  | _ :: _, _, _ :: _, _, h, h' => ⟨h.1, RepL.app h.2 h'⟩
  | [], _, _ :: _, _, h, _ => h.elim
  | _ :: _, _, [], _, h, _ => h.elim
theorem RepL.snoc {vs : List V} {xs : List α} {v : V} {x : α} (h : RepL K S vs xs) (r : Py.rep K S v x) : RepL K S (vs ++ [v]) (xs ++ [x]) := h.app ⟨r, True.intro⟩
theorem RepL.get : ∀ {vs : List V} {xs : List α} {i : Nat} {x : α}, RepL K S vs xs → xs[i]? = some x → ∃ v, vs[i]? = some v ∧ Py.rep K S v x
  | [], [], _, _, _, e => by simp at e
  | v :: _, y :: _, 0, x, h, e => by
    simp only [List.getElem?_cons_zero, Option.some.injEq] at e
    subst e
    exact ⟨v, rfl, h.1⟩
  | _ :: vs, _ :: xs, i + 1, x, h, e => by
    obtain ⟨w, h1, h2⟩ := RepL.get (vs := vs) (xs := xs) (i := i) (x := x) h.2 (by simpa using e)
    exact ⟨w, by simpa using h1, h2⟩
  | [], _ :: _, _, _, h, _ => h.elim
  | _ :: _, [], _, _, h, _ => h.elim
theorem RepL.set : ∀ {vs : List V} {xs : List α} {i : Nat} {v : V} {x : α}, RepL K S vs xs → Py.rep K S v x → RepL K S (vs.set i v) (xs.set i x)
  | [], [], _, _, _, _, _ => True.intro
  | _ :: _, _ :: _, 0, _, _, h, r => ⟨r, h.2⟩
  | _ :: _, _ :: _, _ + 1, _, _, h, r => ⟨h.1, RepL.set h.2 r⟩
  | [], _ :: _, _, _, _, h, _ => h.elim
  | _ :: _, [], _, _, _, h, _ => h.elim
theorem RepL.drop : ∀ {vs : List V} {xs : List α} (n : Nat), RepL K S vs xs → RepL K S (vs.drop n) (xs.drop n)
  | _, _, 0, h => h
  | [], [], _ + 1, _ => True.intro
  | _ :: _, _ :: _, n + 1, h => RepL.drop n h.2
  | [], _ :: _, _, h => h.elim
  | _ :: _, [], _, h => h.elim
theorem RepL.take : ∀ {vs : List V} {xs : List α} (n : Nat), RepL K S vs xs → RepL K S (vs.take n) (xs.take n)
  | _, _, 0, _ => True.intro
  | [], [], _ + 1, _ => True.intro
  | _ :: _, _ :: _, n + 1, h => ⟨h.1, RepL.take n h.2⟩
  | [], _ :: _, _, h => h.elim
  | _ :: _, [], _, h => h.elim
theorem RepL.erase : ∀ {vs : List V} {xs : List α} (n : Nat), RepL K S vs xs → RepL K S (vs.eraseIdx n) (xs.eraseIdx n)
  | [], [], _, _ => True.intro
  | _ :: _, _ :: _, 0, h => h.2
  | _ :: _, _ :: _, n + 1, h => ⟨h.1, RepL.erase n h.2⟩
  | [], _ :: _, _, h => h.elim
  | _ :: _, [], _, h => h.elim
theorem RepL.rep {vs : List V} {xs : List α} (h : RepL K S vs xs) : ∀ n : Nat, RepL K S (List.replicate n vs).flatten (List.replicate n xs).flatten
  | 0 => True.intro
  | n + 1 => by
    rw [List.replicate_succ, List.replicate_succ, List.flatten_cons, List.flatten_cons]
    exact h.app (RepL.rep h n)
end
theorem RepL.ints {K : Fg} {S : Hp} : ∀ {vs : List V} {xs : List Int}, RepL K S vs xs → vs = xs.map V.int
  | [], [], _ => rfl
  | _ :: _, _ :: _, h => by
    rw [List.map_cons, ← RepL.ints h.2, show _ = V.int _ from h.1]
  | [], _ :: _, h => h.elim
  | _ :: _, [], h => h.elim
theorem RepL.bls {K : Fg} {S : Hp} : ∀ {vs : List V} {xs : List Bool}, RepL K S vs xs → vs = xs.map V.bl
  | [], [], _ => rfl
  | _ :: _, _ :: _, h => by
    rw [List.map_cons, ← RepL.bls h.2, show _ = V.bl _ from h.1]
  | [], _ :: _, h => h.elim
  | _ :: _, [], h => h.elim
theorem RepL.of_ints {K : Fg} {S : Hp} : ∀ (xs : List Int), RepL K S (xs.map V.int) xs
  | [] => True.intro
  | _ :: xs => ⟨rfl, RepL.of_ints xs⟩
theorem seqT {K : Fg} {H H' : Hp} {a : Addr} {xs : List V} (e : Same H H') (h : SqT K H a xs) : SqT K H' a xs := by
  rcases h with (h | ⟨o, h⟩) | h
  · exact .inl (.inl (e _ _ h))
  · exact .inl (.inr ⟨o, e _ _ h⟩)
  · exact .inr h
instance {α : Type} [Py α] : Py (List α) := ⟨fun K S v xs => ∃ p vs, v = .ref p ∧ S p = some (.lst vs) ∧ RepL K S vs xs, fun e ⟨p, vs, h1, h2, h3⟩ => ⟨p, vs, h1, e _ _ h2, h3.mono e⟩⟩
structure Tp (α : Type) where
  l : List α
  deriving DecidableEq
instance {α : Type} [Py α] : Py (Tp α) := ⟨fun K S v xs => ∃ p vs, v = .ref p ∧ SqT K S p vs ∧ RepL K S vs xs.l, fun e ⟨p, vs, h1, h2, h3⟩ => ⟨p, vs, h1, seqT e h2, h3.mono e⟩⟩
instance {α β : Type} [Py α] [Py β] : Py (α × β) := ⟨fun K S v x => ∃ p a b, v = .ref p ∧ SqT K S p [a, b] ∧ Py.rep K S a x.1 ∧ Py.rep K S b x.2, fun e ⟨p, a, b, h1, h2, h3, h4⟩ => ⟨p, a, b, h1, seqT e h2, Py.mono e h3, Py.mono e h4⟩⟩
structure T3 (α β γ : Type) where
  a : α
  b : β
  c : γ
  deriving DecidableEq
instance {α β γ : Type} [Py α] [Py β] [Py γ] : Py (T3 α β γ) := ⟨fun K S v x => ∃ p a b c, v = .ref p ∧ SqT K S p [a, b, c] ∧ Py.rep K S a x.a ∧ Py.rep K S b x.b ∧ Py.rep K S c x.c,
  fun e ⟨p, a, b, c, h1, h2, h3, h4, h5⟩ => ⟨p, a, b, c, h1, seqT e h2, Py.mono e h3, Py.mono e h4, Py.mono e h5⟩⟩
instance {α : Type} [Py α] : Py (Option α) := ⟨fun K S v x => match x with | none => v = .non | some y => Py.rep K S v y, fun {K H H' v x} e h => by cases x with | none => exact h | some y => exact Py.mono e h⟩
instance {α β : Type} [Py α] [Py β] : Py (Sum α β) := ⟨fun K S v x => match x with | .inl y => Py.rep K S v y | .inr y => Py.rep K S v y, fun {K H H' v x} e h => by cases x with | inl y => exact Py.mono e h | inr y => exact Py.mono e h⟩
structure Scr where
  l : List Int
instance : Py Scr := ⟨fun K S v x => ∃ p, v = .ref p ∧ SqL K S p (x.l.map V.int), fun e ⟨p, h1, h2⟩ => ⟨p, h1, e.seq h2⟩⟩
structure Dct (α : Type) where
  l : List (Int × α)
namespace Dct
variable {α : Type}
def get? (d : Dct α) (k : Int) : Option α := (d.l.find? fun kv => decide (kv.1 = k)).map (·.2)
def put (d : Dct α) (k : Int) (x : α) : Dct α := ⟨if d.l.any (fun kv => decide (kv.1 = k)) then d.l.map (fun kv => if kv.1 = k then (kv.1, x) else kv) else d.l ++ [(k, x)]⟩
def del (d : Dct α) (k : Int) : Dct α := ⟨d.l.filter fun kv => decide (kv.1 ≠ k)⟩
def emp : Dct α := ⟨[]⟩
end Dct
def RepD {α : Type} [Py α] (K : Fg) (S : Hp) : List (Key × V) → List (Int × α) → Prop
  | [], [] => True
  | kv :: kvs, x :: xs => kv.1 = .inl x.1 ∧ Py.rep K S kv.2 x.2 ∧ RepD K S kvs xs
  | _, _ => False
section
variable {α : Type} [Py α] {K : Fg} {S S' : Hp}
theorem RepD.mono (e : Same S S') : ∀ {kvs : List (Key × V)} {xs : List (Int × α)}, RepD K S kvs xs → RepD K S' kvs xs
  | [], [], _ => True.intro
  | _ :: _, _ :: _, h => ⟨h.1, Py.mono e h.2.1, RepD.mono e h.2.2⟩
  | [], _ :: _, h => h.elim
  | _ :: _, [], h => h.elim
theorem RepD.len : ∀ {kvs : List (Key × V)} {xs : List (Int × α)}, RepD K S kvs xs → kvs.length = xs.length
  | [], [], _ => rfl
  | _ :: _, _ :: _, h => by rw [List.length_cons, List.length_cons, RepD.len h.2.2]
  | [], _ :: _, h => h.elim
  | _ :: _, [], h => h.elim
theorem dec_inl (a b : Int) : decide ((Sum.inl a : Key) = Sum.inl b) = decide (a = b) := by
  by_cases e : a = b
  · subst e; simp
  · rw [decide_eq_false e, decide_eq_false (fun q => e (Sum.inl.inj q))]
theorem RepD.val : ∀ {kvs : List (Key × V)} {xs : List (Int × α)} (k : Int), RepD K S kvs xs → match (xs.find? fun kv => decide (kv.1 = k)).map (·.2) with
    | some x => ∃ v, valV kvs (Sum.inl k) = some v ∧ Py.rep K S v x
    | none => valV kvs (Sum.inl k) = none
  | [], [], _, _ => rfl
  | kv :: kvs, x :: xs, k, h => by
    obtain ⟨h1, h2, h3⟩ := h
    by_cases e : x.1 = k
    · have e1 : kv.1 = Sum.inl k := by rw [h1, e]
      rw [List.find?_cons, show decide (x.1 = k) = true from decide_eq_true e]
      exact ⟨kv.2, valV_pos e1, h2⟩
    · have e1 : ¬ kv.1 = Sum.inl k := by rw [h1]; exact fun q => e (Sum.inl.inj q)
      rw [List.find?_cons, show decide (x.1 = k) = false from decide_eq_false e, valV_neg e1]
      exact RepD.val k h3
  | [], _ :: _, _, h => h.elim
  | _ :: _, [], _, h => h.elim
theorem RepD.any : ∀ {kvs : List (Key × V)} {xs : List (Int × α)} (k : Int), RepD K S kvs xs → (kvs.any fun kv => decide (kv.1 = Sum.inl k)) = xs.any fun kv => decide (kv.1 = k)
  | [], [], _, _ => rfl
  | kv :: kvs, x :: xs, k, h => by
    rw [List.any_cons, List.any_cons, RepD.any k h.2.2, h.1, dec_inl]
  | [], _ :: _, _, h => h.elim
  | _ :: _, [], _, h => h.elim
theorem RepD.repl {v : V} {y : α} (k : Int) (r : Py.rep K S v y) : ∀ {kvs : List (Key × V)} {xs : List (Int × α)}, RepD K S kvs xs →
    RepD K S (kvs.map fun kv => if kv.1 = Sum.inl k then (kv.1, v) else kv) (xs.map fun kv => if kv.1 = k then (kv.1, y) else kv)
  | [], [], _ => True.intro
  | kv :: kvs, x :: xs, h => by
    obtain ⟨h1, h2, h3⟩ := h
    rw [List.map_cons, List.map_cons]
    by_cases e : x.1 = k
    · have e1 : kv.1 = Sum.inl k := by rw [h1, e]
      rw [if_pos e1, if_pos e]
      exact ⟨h1, r, RepD.repl k r h3⟩
    · have e1 : ¬ kv.1 = Sum.inl k := by rw [h1]; exact fun q => e (Sum.inl.inj q)
      rw [if_neg e1, if_neg e]
      exact ⟨h1, h2, RepD.repl k r h3⟩
  | [], _ :: _, h => h.elim
  | _ :: _, [], h => h.elim
theorem RepD.snoc {v : V} {y : α} (k : Int) (r : Py.rep K S v y) : ∀ {kvs : List (Key × V)} {xs : List (Int × α)}, RepD K S kvs xs → RepD K S (kvs ++ [(Sum.inl k, v)]) (xs ++ [(k, y)])
  | [], [], _ => ⟨rfl, r, True.intro⟩
  | _ :: _, _ :: _, h => ⟨h.1, h.2.1, RepD.snoc k r h.2.2⟩
  | [], _ :: _, h => h.elim
  | _ :: _, [], h => h.elim
theorem RepD.put {v : V} {y : α} (k : Int) (r : Py.rep K S v y) {kvs : List (Key × V)} {d : Dct α} (h : RepD K S kvs d.l) : RepD K S (putK kvs (Sum.inl k) v) (d.put k y).l := by
  unfold putK Dct.put
  rw [h.any k]
  by_cases e : (d.l.any fun kv => decide (kv.1 = k)) = true
  · rw [if_pos e, if_pos e]
    exact h.repl k r
  · rw [if_neg e, if_neg e]
    exact h.snoc k r
theorem RepD.del (k : Int) : ∀ {kvs : List (Key × V)} {xs : List (Int × α)}, RepD K S kvs xs → RepD K S (dropK kvs (Sum.inl k)) (xs.filter fun kv => decide (kv.1 ≠ k))
  | [], [], _ => True.intro
  | kv :: kvs, x :: xs, h => by
    obtain ⟨h1, h2, h3⟩ := h
    have ih := RepD.del k h3
    by_cases e : x.1 = k
    · have e1 : kv.1 = Sum.inl k := by rw [h1, e]
      rw [dropK_pos e1, List.filter_cons, if_neg (by simp [e])]
      exact ih
    · have e1 : ¬ kv.1 = Sum.inl k := by rw [h1]; exact fun q => e (Sum.inl.inj q)
      rw [dropK_neg e1, List.filter_cons, if_pos (by simp [e])]
      exact ⟨h1, h2, ih⟩
  | [], _ :: _, h => h.elim
  | _ :: _, [], h => h.elim
end
instance {α : Type} [Py α] : Py (Dct α) := ⟨fun K S v d => ∃ p kvs, v = .ref p ∧ S p = some (.dK kvs) ∧ RepD K S kvs d.l, fun e ⟨p, vs, h1, h2, h3⟩ => ⟨p, vs, h1, e _ _ h2, h3.mono e⟩⟩
class Own (α : Type) where
  own : Fg → Hp → Hp → V → List Addr → α → Prop
  mono : ∀ {K : Fg} {S S' H H' : Hp} {v : V} {ps : List Addr} {x : α}, Same S S' → (∀ p ∈ ps, H' p = H p) → own K S H v ps x → own K S' H' v ps x
instance {α : Type} [Py α] : Own (List α) := ⟨fun K S H v ps xs => ∃ p vs, v = .ref p ∧ ps = [p] ∧ H p = some (.lst vs) ∧ RepL K S vs xs, fun {K S S' H H' v ps x} e a ⟨p, vs, h1, h2, h3, h4⟩ =>
  ⟨p, vs, h1, h2, by rw [a p (by rw [h2]; exact List.mem_singleton.mpr rfl)]; exact h3, h4.mono e⟩⟩
instance {α : Type} [Py α] : Own (Dct α) := ⟨fun K S H v ps d => ∃ p kvs, v = .ref p ∧ ps = [p] ∧ H p = some (.dK kvs) ∧ RepD K S kvs d.l, fun {K S S' H H' v ps x} e a ⟨p, vs, h1, h2, h3, h4⟩ =>
  ⟨p, vs, h1, h2, by rw [a p (by rw [h2]; exact List.mem_singleton.mpr rfl)]; exact h3, h4.mono e⟩⟩
structure Spr where
  a : Addr
  z : Int
instance : Own Spr := ⟨fun K S H v ps x => v = .ref x.a ∧ ps = [x.a] ∧ H x.a = some (.lst [.int x.z]), fun {K S S' H H' v ps x} e a ⟨h1, h2, h3⟩ =>
  ⟨h1, h2, by rw [a x.a (by rw [h2]; exact List.mem_singleton.mpr rfl)]; exact h3⟩⟩
class Anch (ω : Type) [Own ω] where
  fp : ω → V × List Addr
  at_ : ∀ {K : Fg} {S H : Hp} {v : V} {ps : List Addr} {x : ω}, Own.own K S H v ps x → (v, ps) = fp x
instance : Anch Spr := ⟨fun x => (.ref x.a, [x.a]), fun ⟨h1, h2, _⟩ => by rw [h1, h2]⟩
inductive Sl : Type 1
  | no
  | im {α : Type} [Py α] (x : α)
  | ow {α : Type} [Own α] (x : α)
def SlOk (K : Fg) (S H : Hp) (sv : Option (Option V)) (ps : List Addr) : Sl → Prop
  | .no => True
  | @Sl.im _ inst x => ∃ v, sv = some (some v) ∧ inst.rep K S v x
  | @Sl.ow _ inst x => ∃ v, sv = some (some v) ∧ inst.own K S H v ps x
structure Kn (K : Fg) (B S0 S : Hp) (σ : St) (H : Hp) (F : Nat → List Addr) (G : List Sl) : Prop where
  s0 : Same S0 S
  sub : Same S H
  keep : Same B H
  clean : ∀ p o, B p = some o → S p = S0 p
  off : ∀ i p, p ∈ F i → S p = none ∧ B p = none ∧ ∃ o, H p = some o
  dj : ∀ i j p, p ∈ F i → p ∈ F j → i = j
  len : G.length = σ.length
  sl : ∀ i s, G[i]? = some s → SlOk K S H σ[i]? (F i) s
structure Grow (S H S' H' : Hp) : Prop where
  s : Same S S'
  sub : Same S' H'
  h : Same H H'
  cl : ∀ p o, H p = some o → S' p = S p
theorem Grow.refl {S H : Hp} (e : Same S H) : Grow S H S H := ⟨Same.refl _, e, Same.refl _, fun _ _ _ => rfl⟩
theorem Grow.trans {S H S1 H1 S2 H2 : Hp} (a : Grow S H S1 H1) (b : Grow S1 H1 S2 H2) : Grow S H S2 H2 :=
  ⟨a.s.trans b.s, b.sub, a.h.trans b.h, fun p o e => (b.cl p o (a.h p o e)).trans (a.cl p o e)⟩
theorem same_new {H : Hp} {p : Addr} {o : HO} (h : H p = none) : Same H (upd H p o) := fun b x e => by
  rw [upd_ne (ne_of_none e h)]
  exact e
theorem Grow.new {S H : Hp} {p : Addr} {o : HO} (e : Same S H) (h : H p = none) : Grow S H (upd S p o) (upd H p o) := by
  refine ⟨same_new (e.free h), fun b x q => ?_, same_new h, fun b x q => upd_ne (ne_of_none q h)⟩
  by_cases hb : b = p
  · subst hb
    rw [upd_same] at q ⊢
    exact q
  · rw [upd_ne hb] at q ⊢
    exact e b x q
theorem Grow.raw {S H : Hp} {p : Addr} {o : HO} (e : Same S H) (h : H p = none) : Grow S H S (upd H p o) := ⟨Same.refl _, e.trans (same_new h), same_new h, fun _ _ _ => rfl⟩
section
variable {K : Fg} {B S0 S S' : Hp} {σ : St} {H H' : Hp} {F : Nat → List Addr} {G : List Sl}
theorem Kn.grow (k : Kn K B S0 S σ H F G) (g : Grow S H S' H') : Kn K B S0 S' σ H' F G := by
  refine ⟨k.s0.trans g.s, g.sub, k.keep.trans g.h, fun p o e => (g.cl p o (k.keep p o e)).trans (k.clean p o e), fun i p hp => ?_, k.dj, k.len, fun i s e => ?_⟩
  · obtain ⟨h1, h2, o, h3⟩ := k.off i p hp
    exact ⟨(g.cl p o h3).trans h1, h2, o, g.h p o h3⟩
  · have q := k.sl i s e
    cases s with
    | no => exact True.intro
    | im x =>
      obtain ⟨v, h1, h2⟩ := q
      exact ⟨v, h1, Py.mono g.s h2⟩
    | ow x =>
      obtain ⟨v, h1, h2⟩ := q
      refine ⟨v, h1, Own.mono g.s (fun p hp => ?_) h2⟩
      obtain ⟨_, _, o, h3⟩ := k.off i p hp
      rw [h3]
      exact g.h p o h3
theorem Kn.new {p : Addr} {o : HO} (k : Kn K B S0 S σ H F G) (h : H p = none) : Kn K B S0 (upd S p o) σ (upd H p o) F G := k.grow (Grow.new k.sub h)
theorem Kn.raw {p : Addr} {o : HO} (k : Kn K B S0 S σ H F G) (h : H p = none) : Kn K B S0 S σ (upd H p o) F G := k.grow (Grow.raw k.sub h)
theorem Kn.settle {p : Addr} {o : HO} (k : Kn K B S0 S σ H F G) (h : H p = some o) (hs : S p = none) (hb : B p = none) (hf : ∀ i, p ∉ F i) : Kn K B S0 (upd S p o) σ H F G := by
  have e : Same S (upd S p o) := same_new hs
  refine ⟨k.s0.trans e, fun b x q => ?_, k.keep, fun b x q => ?_, fun i b hb' => ?_, k.dj, k.len, fun i s q => ?_⟩
  · by_cases hbp : b = p
    · subst hbp
      rw [upd_same] at q
      rw [h, q]
    · rw [upd_ne hbp] at q
      exact k.sub b x q
  · rw [upd_ne (ne_of_none q hb)]
    exact k.clean b x q
  · obtain ⟨h1, h2, h3⟩ := k.off i b hb'
    have ne : b ≠ p := fun z => hf i (z ▸ hb')
    exact ⟨by rw [upd_ne ne]; exact h1, h2, h3⟩
  · have z := k.sl i s q
    cases s with
    | no => exact True.intro
    | im x =>
      obtain ⟨v, h1, h2⟩ := z
      exact ⟨v, h1, Py.mono e h2⟩
    | ow x =>
      obtain ⟨v, h1, h2⟩ := z
      exact ⟨v, h1, Own.mono e (fun _ _ => rfl) h2⟩
theorem Kn.free (k : Kn K B S0 S σ H F G) {p : Addr} (h : H p = none) : S p = none ∧ B p = none ∧ ∀ i, p ∉ F i := ⟨k.sub.free h, k.keep.free h, fun i hp => by
  obtain ⟨_, _, o, e⟩ := k.off i p hp
  rw [h] at e
  cases e⟩
theorem set_get.{u} {α : Type u} {l : List α} {i j : Nat} {x y : α} (h : (l.set i x)[j]? = some y) : (j = i ∧ y = x) ∨ (j ≠ i ∧ l[j]? = some y) := by
  by_cases e : j = i
  · subst e
    by_cases hl : j < l.length
    · rw [List.getElem?_set_self hl] at h
      exact .inl ⟨rfl, (Option.some.inj h).symm⟩
    · rw [List.getElem?_eq_none (by rw [List.length_set]; omega)] at h
      cases h
  · rw [List.getElem?_set_ne (fun z => e z.symm)] at h
    exact .inr ⟨e, h⟩
theorem isSome_lt.{u} {α : Type u} {l : List α} {i : Nat} (h : l[i]?.isSome = true) : i < l.length := by
  by_cases e : i < l.length
  · exact e
  · rw [List.getElem?_eq_none (by omega)] at h
    cases h
theorem Kn.set {α : Type} [Py α] {x : α} {v : V} {i : Nat} (k : Kn K B S0 S σ H F G) (r : Py.rep K S v x) (hi : G[i]?.isSome = true) : Kn K B S0 S (σ.set i (some v)) H F (G.set i (.im x)) := by
  have hl := isSome_lt hi
  refine ⟨k.s0, k.sub, k.keep, k.clean, k.off, k.dj, by rw [List.length_set, List.length_set]; exact k.len, fun j s e => ?_⟩
  rcases set_get e with ⟨rfl, rfl⟩ | ⟨ne, e⟩
  · exact ⟨v, List.getElem?_set_self (by rw [← k.len]; exact hl), r⟩
  · rw [List.getElem?_set_ne (fun z => ne z.symm)]
    exact k.sl j s e
theorem Kn.setNo {v : Option V} {i : Nat} (k : Kn K B S0 S σ H F G) : Kn K B S0 S (σ.set i v) H F (G.set i .no) := by
  refine ⟨k.s0, k.sub, k.keep, k.clean, k.off, k.dj, by rw [List.length_set, List.length_set]; exact k.len, fun j s e => ?_⟩
  rcases set_get e with ⟨rfl, rfl⟩ | ⟨ne, e⟩
  · exact True.intro
  · rw [List.getElem?_set_ne (fun z => ne z.symm)]
    exact k.sl j s e
def upF (F : Nat → List Addr) (i : Nat) (ps : List Addr) : Nat → List Addr := fun j => if j = i then ps else F j
theorem upF_self {i : Nat} {ps : List Addr} : upF F i ps i = ps := if_pos rfl
theorem upF_ne {i j : Nat} {ps : List Addr} (h : j ≠ i) : upF F i ps j = F j := if_neg h
theorem Kn.setOwn {α : Type} [Own α] {x : α} {v : V} {i : Nat} {p : Addr} (k : Kn K B S0 S σ H F G) (r : Own.own K S H v [p] x) (hi : G[i]?.isSome = true) (hs : S p = none) (hb : B p = none) (hp : ∃ o, H p = some o) (hf : ∀ j, p ∉ F j) :
    Kn K B S0 S (σ.set i (some v)) H (upF F i [p]) (G.set i (.ow x)) := by
  have hl := isSome_lt hi
  refine ⟨k.s0, k.sub, k.keep, k.clean, fun j q hq => ?_, fun a b q ha hb' => ?_, by rw [List.length_set, List.length_set]; exact k.len, fun j s e => ?_⟩
  · by_cases e : j = i
    · subst e
      rw [upF_self] at hq
      cases List.mem_singleton.mp hq
      exact ⟨hs, hb, hp⟩
    · rw [upF_ne e] at hq
      exact k.off j q hq
  · by_cases ea : a = i
    · by_cases eb : b = i
      · rw [ea, eb]
      · rw [ea, upF_self] at ha
        rw [upF_ne eb] at hb'
        cases List.mem_singleton.mp ha
        exact absurd hb' (hf b)
    · rw [upF_ne ea] at ha
      by_cases eb : b = i
      · rw [eb, upF_self] at hb'
        cases List.mem_singleton.mp hb'
        exact absurd ha (hf a)
      · rw [upF_ne eb] at hb'
        exact k.dj a b q ha hb'
  · rcases set_get e with ⟨rfl, rfl⟩ | ⟨ne, e⟩
    · rw [upF_self]
      exact ⟨v, List.getElem?_set_self (by rw [← k.len]; exact hl), r⟩
    · rw [List.getElem?_set_ne (fun z => ne z.symm), upF_ne ne]
      exact k.sl j s e
theorem Kn.mut {α : Type} [Own α] {x : α} {v : V} {i : Nat} (k : Kn K B S0 S σ H F G) (hi : σ[i]? = some (some v)) (h1 : ∀ q, q ∉ F i → H' q = H q) (h2 : ∀ q ∈ F i, ∃ o, H' q = some o) (r : Own.own K S H' v (F i) x) :
    Kn K B S0 S σ H' F (G.set i (.ow x)) := by
  refine ⟨k.s0, fun q o e => ?_, fun q o e => ?_, k.clean, fun j q hq => ?_, k.dj, by rw [List.length_set]; exact k.len, fun j s e => ?_⟩
  · rw [h1 q fun z => by rw [(k.off i q z).1] at e; cases e]
    exact k.sub q o e
  · rw [h1 q fun z => by rw [(k.off i q z).2.1] at e; cases e]
    exact k.keep q o e
  · obtain ⟨a, b, o, c⟩ := k.off j q hq
    refine ⟨a, b, ?_⟩
    by_cases e : q ∈ F i
    · exact h2 q e
    · exact ⟨o, by rw [h1 q e]; exact c⟩
  · rcases set_get e with ⟨rfl, rfl⟩ | ⟨ne, e⟩
    · exact ⟨v, hi, r⟩
    · have z := k.sl j s e
      cases s with
      | no => exact True.intro
      | im y => exact z
      | ow y =>
        obtain ⟨u, a, b⟩ := z
        exact ⟨u, a, Own.mono (Same.refl _) (fun p hp => h1 p fun w => ne (k.dj j i p hp w)) b⟩
inductive Le : List Sl → List Sl → Prop
  | n : Le [] []
  | k {s : Sl} {G G' : List Sl} : Le G G' → Le (s :: G) (s :: G')
  | d {s : Sl} {G G' : List Sl} : Le G G' → Le (.no :: G) (s :: G')
theorem Le.get : ∀ {G G' : List Sl} {i : Nat} {s : Sl}, Le G G' → G[i]? = some s → s = .no ∨ G'[i]? = some s
  | _, _, _, _, .n, e => by simp at e
  | _, _, 0, s, .k _, e => .inr e
  | _, _, 0, s, .d _, e => .inl (Option.some.inj (by simpa using e)).symm
  | _, _, i + 1, s, .k h, e => by simpa using Le.get (i := i) h (by simpa using e)
  | _, _, i + 1, s, .d h, e => by simpa using Le.get (i := i) h (by simpa using e)
theorem Le.length : ∀ {G G' : List Sl}, Le G G' → G.length = G'.length
  | _, _, .n => rfl
  | _, _, .k h => by rw [List.length_cons, List.length_cons, h.length]
  | _, _, .d h => by rw [List.length_cons, List.length_cons, h.length]
theorem Le.refl : ∀ (G : List Sl), Le G G
  | [] => .n
  | _ :: G => .k (Le.refl G)
theorem Kn.le {G' : List Sl} (k : Kn K B S0 S σ H F G) (h : Le G' G) : Kn K B S0 S σ H F G' :=
  ⟨k.s0, k.sub, k.keep, k.clean, k.off, k.dj, h.length.trans k.len, fun i s e => by
    rcases h.get e with rfl | e
    · exact True.intro
    · exact k.sl i s e⟩
theorem Kn.im {α : Type} [Py α] {x : α} {i : Nat} (k : Kn K B S0 S σ H F G) (h : G[i]? = some (.im x)) : ∃ v, σ[i]? = some (some v) ∧ Py.rep K S v x := k.sl i _ h
theorem Kn.ow {α : Type} [Own α] {x : α} {i : Nat} (k : Kn K B S0 S σ H F G) (h : G[i]? = some (.ow x)) : ∃ v, σ[i]? = some (some v) ∧ Own.own K S H v (F i) x := k.sl i _ h
theorem Kn.relL {α : Type} [Py α] {x : List α} {i : Nat} (k : Kn K B S0 S σ H F G) (h : G[i]? = some (.ow x)) : ∃ S', Same S S' ∧ Kn K B S0 S' σ H (upF F i []) (G.set i (.im x)) := by
  obtain ⟨v, hv, p, vs, rfl, hp, h1, h2⟩ := k.ow h
  obtain ⟨hs, hb, _⟩ := k.off i p (by rw [hp]; exact List.mem_singleton.mpr rfl)
  have k1 : Kn K B S0 S σ H (upF F i []) (G.set i .no) := by
    refine ⟨k.s0, k.sub, k.keep, k.clean, fun j q hq => ?_, fun a b q ha hb' => ?_, by rw [List.length_set]; exact k.len, fun j s e => ?_⟩
    · by_cases e : j = i
      · rw [e, upF_self] at hq
        cases hq
      · rw [upF_ne e] at hq
        exact k.off j q hq
    · by_cases ea : a = i
      · rw [ea, upF_self] at ha
        cases ha
      · by_cases eb : b = i
        · rw [eb, upF_self] at hb'
          cases hb'
        · rw [upF_ne ea] at ha
          rw [upF_ne eb] at hb'
          exact k.dj a b q ha hb'
    · rcases set_get e with ⟨rfl, rfl⟩ | ⟨ne, e⟩
      · exact True.intro
      · rw [upF_ne ne]
        exact k.sl j s e
  have hf : ∀ j, p ∉ upF F i [] j := fun j hj => by
    by_cases e : j = i
    · rw [e, upF_self] at hj
      cases hj
    · rw [upF_ne e] at hj
      exact e (k.dj j i p hj (by rw [hp]; exact List.mem_singleton.mpr rfl))
  have k2 := k1.settle h1 hs hb hf
  refine ⟨upd S p (.lst vs), same_new hs, ?_⟩
  have hl : i < G.length := (List.getElem?_eq_some_iff.mp h).1
  have k3 := k2.set (i := i) (v := .ref p) (x := x) ⟨p, vs, rfl, upd_same, h2.mono (same_new hs)⟩ (by rw [List.getElem?_set_self hl]; rfl)
  have e1 : σ.set i (some (.ref p)) = σ := by
    apply List.ext_getElem?
    intro j
    by_cases e : i = j
    · subst e
      rw [List.getElem?_set_self (by rw [← k.len]; exact hl)]
      exact hv.symm
    · rw [List.getElem?_set_ne e]
  rw [e1, List.set_set] at k3
  exact k3
end
end GL
namespace GL
open PySem L2
section
variable {α : Type}
def EvX [Py α] (K : Fg) (te : TE) (G : List Sl) (x : α) (G' : List Sl) : Prop :=
  ∀ B S0 S σ H F, Kn K B S0 S σ H F G → ∀ Q : VK, (∀ v S' H', Same S S' → Kn K B S0 S' σ H' F G' → Py.rep K S' v x → Q v H') → te σ H Q
def EvL [Py α] (K : Fg) (te : TE) (G : List Sl) (xs : List α) (G' : List Sl) : Prop :=
  ∀ B S0 S σ H F, Kn K B S0 S σ H F G → ∀ Q : VK, (∀ p vs S' H', Same S S' → Kn K B S0 S' σ H' F G' → S' p = none → B p = none → (∀ j, p ∉ F j) → H' p = some (.lst vs) → RepL K S' vs xs → Q (.ref p) H') → te σ H Q
def Rdl [Py α] (K : Fg) (S : Hp) (σ : St) (G : List Sl) (v : V) (xs : List α) : Prop := Py.rep K S v xs ∨ ∃ i : Nat, σ[i]? = some (some v) ∧ G[i]? = some (Sl.ow xs)
def EvC [Py α] (K : Fg) (te : TE) (G : List Sl) (xs : List α) (G' : List Sl) : Prop :=
  ∀ B S0 S σ H F, Kn K B S0 S σ H F G → ∀ Q : VK, (∀ v S' H', Same S S' → Kn K B S0 S' σ H' F G' → Rdl K S' σ G' v xs → Q v H') → te σ H Q
def Rdd [Py α] (K : Fg) (S : Hp) (σ : St) (G : List Sl) (v : V) (xs : Dct α) : Prop := Py.rep K S v xs ∨ ∃ i : Nat, σ[i]? = some (some v) ∧ G[i]? = some (Sl.ow xs)
def EvD [Py α] (K : Fg) (te : TE) (G : List Sl) (xs : Dct α) (G' : List Sl) : Prop :=
  ∀ B S0 S σ H F, Kn K B S0 S σ H F G → ∀ Q : VK, (∀ v S' H', Same S S' → Kn K B S0 S' σ H' F G' → Rdd K S' σ G' v xs → Q v H') → te σ H Q
def EvLs [Py α] (K : Fg) (ta : TA) (G : List Sl) (xs : List α) (G' : List Sl) : Prop :=
  ∀ B S0 S σ H F, Kn K B S0 S σ H F G → ∀ Q : List V → Hp → Prop, (∀ vs S' H', Same S S' → Kn K B S0 S' σ H' F G' → RepL K S' vs xs → Q vs H') → ta σ H Q
class PyA (α : Type) where
  rep : Fg → Hp → List V → α → Prop
  mono : ∀ {K : Fg} {H H' : Hp} {vs : List V} {x : α}, Same H H' → rep K H vs x → rep K H' vs x
  n : Nat
  len : ∀ {K : Fg} {H : Hp} {vs : List V} {x : α}, rep K H vs x → vs.length = n
instance : PyA Unit := ⟨fun _ _ vs _ => vs = [], fun _ h => h, 0, fun h => by rw [h]; rfl⟩
instance {β : Type} [Py α] [PyA β] : PyA (α × β) := ⟨fun K S vs x => ∃ v ws, vs = v :: ws ∧ Py.rep K S v x.1 ∧ PyA.rep K S ws x.2, fun e ⟨v, ws, h1, h2, h3⟩ => ⟨v, ws, h1, Py.mono e h2, PyA.mono e h3⟩,
  PyA.n β + 1, fun ⟨v, ws, h1, h2, h3⟩ => by rw [h1, List.length_cons, PyA.len h3]⟩
def EvA [PyA α] (K : Fg) (ta : TA) (G : List Sl) (x : α) (G' : List Sl) : Prop :=
  ∀ B S0 S σ H F, Kn K B S0 S σ H F G → ∀ Q : List V → Hp → Prop, (∀ vs S' H', Same S S' → Kn K B S0 S' σ H' F G' → PyA.rep K S' vs x → Q vs H') → ta σ H Q
end
def EvT (K : Fg) (tt : TT) (G : List Sl) (b : Bool) (G' : List Sl) : Prop :=
  ∀ B S0 S σ H F, Kn K B S0 S σ H F G → ∀ Q : Bool → Hp → Prop, (∀ S' H', Same S S' → Kn K B S0 S' σ H' F G' → Q b H') → tt σ H Q
def At (K : Fg) (B S0 : Hp) (P : St → Hp → Prop) (G : List Sl) : Prop := ∀ S σ H F, Kn K B S0 S σ H F G → P σ H
def RT {α : Type} [Py α] (K : Fg) (B S0 : Hp) (rt : VK) (x : α) (G : List Sl) : Prop := ∀ S σ H F v, Kn K B S0 S σ H F G → Py.rep K S v x → rt v H
structure Reb (B S0 S1 : Hp) : Prop where
  s : Same S0 S1
  c : ∀ p o, B p = some o → S1 p = S0 p
theorem Reb.refl {B S0 : Hp} : Reb B S0 S0 := ⟨Same.refl _, fun _ _ _ => rfl⟩
theorem Reb.trans {B S0 S1 S2 : Hp} (a : Reb B S0 S1) (b : Reb B S1 S2) : Reb B S0 S2 := ⟨a.s.trans b.s, fun p o e => (b.c p o e).trans (a.c p o e)⟩
section
variable {K : Fg} {B S0 S1 S S' : Hp} {σ : St} {H H' : Hp} {F : Nat → List Addr} {G G' : List Sl}
theorem Kn.unreb (r : Reb B S0 S1) (k : Kn K B S1 S σ H F G) : Kn K B S0 S σ H F G :=
  ⟨r.s.trans k.s0, k.sub, k.keep, fun p o e => (k.clean p o e).trans (r.c p o e), k.off, k.dj, k.len, k.sl⟩
theorem Kn.reb (k : Kn K B S0 S σ H F G) : Kn K B S S σ H F G := ⟨Same.refl _, k.sub, k.keep, fun _ _ _ => rfl, k.off, k.dj, k.len, k.sl⟩
theorem Kn.rebOf (k : Kn K B S0 S σ H F G) : Reb B S0 S := ⟨k.s0, k.clean⟩
theorem At.reb {P : St → Hp → Prop} (r : Reb B S0 S1) (h : At K B S0 P G) : At K B S1 P G := fun S σ H F k => h S σ H F (k.unreb r)
theorem RT.reb {α : Type} [Py α] {rt : VK} {x : α} (r : Reb B S0 S1) (h : RT K B S0 rt x G) : RT K B S1 rt x G := fun S σ H F v k q => h S σ H F v (k.unreb r) q
def Mid (K : Fg) (B S0 : Hp) (P : List Sl → Prop) (σ : St) (H : Hp) : Prop := ∃ S F G, Kn K B S0 S σ H F G ∧ P G
theorem at_mid {P : List Sl → Prop} (h : Le G' G) (p : P G') : At K B S0 (Mid K B S0 P) G := fun S σ H F k => ⟨S, F, G', k.le h, p⟩
theorem at_le {P : St → Hp → Prop} (h : Le G' G) (q : At K B S0 P G') : At K B S0 P G := fun S σ H F k => q S σ H F (k.le h)
theorem at_relL {α : Type} [Py α] {x : List α} {i : Nat} {P : St → Hp → Prop} (h : G[i]? = some (.ow x)) (q : At K B S0 P (G.set i (.im x))) : At K B S0 P G := fun S σ H F k => by
  obtain ⟨S', _, k'⟩ := k.relL h
  exact q S' σ H _ k'
section
variable {α : Type} [Py α]
theorem Rdl.at {v : V} {xs : List α} (h : Rdl K S σ G v xs) (k : Kn K B S0 S σ H F G) : ∃ p vs, v = .ref p ∧ H p = some (.lst vs) ∧ RepL K S vs xs := by
  rcases h with ⟨p, vs, h1, h2, h3⟩ | ⟨i, h1, h2⟩
  · exact ⟨p, vs, h1, k.sub _ _ h2, h3⟩
  · obtain ⟨w, e, p, vs, q1, q2, q3, q4⟩ := k.ow h2
    rw [h1] at e
    cases e
    exact ⟨p, vs, q1, q3, q4⟩
theorem Rdl.mono {v : V} {xs : List α} (e : Same S S') (h : Rdl K S σ G v xs) : Rdl K S' σ G v xs := h.elim (fun h => .inl (Py.mono e h)) .inr
theorem Rdd.at {v : V} {xs : Dct α} (h : Rdd K S σ G v xs) (k : Kn K B S0 S σ H F G) : ∃ p kvs, v = .ref p ∧ H p = some (.dK kvs) ∧ RepD K S kvs xs.l := by
  rcases h with ⟨p, vs, h1, h2, h3⟩ | ⟨i, h1, h2⟩
  · exact ⟨p, vs, h1, k.sub _ _ h2, h3⟩
  · obtain ⟨w, e, p, vs, q1, q2, q3, q4⟩ := k.ow h2
    rw [h1] at e
    cases e
    exact ⟨p, vs, q1, q3, q4⟩
theorem Rdd.mono {v : V} {xs : Dct α} (e : Same S S') (h : Rdd K S σ G v xs) : Rdd K S' σ G v xs := h.elim (fun h => .inl (Py.mono e h)) .inr
end
section
variable {α β γ : Type} [Py α] [Py β] [Py γ] {G1 G2 G3 : List Sl} {ta tb tc te : TE} {x : α} {y : β} {z : γ} {i j : Nat}
theorem ev_var (h : G[i]? = some (.im x)) : EvX K (tVar i) G x G := fun B S0 S σ H F k Q q => by
  obtain ⟨v, h1, h2⟩ := k.im h
  exact ⟨v, h1, q v S H (Same.refl _) k h2⟩
theorem ev_int {n : Int} : EvX K (tC (.int n)) G n G := fun B S0 S σ H F k Q q => q _ S H (Same.refl _) k rfl
theorem ev_bl {n : Bool} : EvX K (tC (.bl n)) G n G := fun B S0 S σ H F k Q q => q _ S H (Same.refl _) k rfl
theorem ev_none : EvX K (tC .non) G (none : Option α) G := fun B S0 S σ H F k Q q => q _ S H (Same.refl _) k rfl
theorem EvX.some (h : EvX K te G x G1) : EvX K te G (some x) G1 := fun B S0 S σ H F k Q q => h B S0 S σ H F k Q fun v S' H' e k' r => q v S' H' e k' r
theorem EvX.inl (h : EvX K te G x G1) : EvX K te G (Sum.inl x : Sum α β) G1 := fun B S0 S σ H F k Q q => h B S0 S σ H F k Q fun v S' H' e k' r => q v S' H' e k' r
theorem EvX.inr (h : EvX K te G y G1) : EvX K te G (Sum.inr y : Sum α β) G1 := fun B S0 S σ H F k Q q => h B S0 S σ H F k Q fun v S' H' e k' r => q v S' H' e k' r
theorem EvX.is {x' : α} (h : EvX K te G x G1) (e : x = x') : EvX K te G x' G1 := e ▸ h
theorem EvX.c {xs : List α} (h : EvX K te G xs G1) : EvC K te G xs G1 := fun B S0 S σ H F k Q q => h B S0 S σ H F k Q fun v S' H' e k' r => q v S' H' e k' (.inl r)
theorem EvX.d {xs : Dct α} (h : EvX K te G xs G1) : EvD K te G xs G1 := fun B S0 S σ H F k Q q => h B S0 S σ H F k Q fun v S' H' e k' r => q v S' H' e k' (.inl r)
theorem ec_own {xs : List α} (h : G[i]? = some (.ow xs)) : EvC K (tVar i) G xs G := fun B S0 S σ H F k Q q => by
  obtain ⟨v, h1, h2⟩ := k.ow h
  exact ⟨v, h1, q v S H (Same.refl _) k (.inr ⟨i, h1, h⟩)⟩
theorem ed_own {xs : Dct α} (h : G[i]? = some (.ow xs)) : EvD K (tVar i) G xs G := fun B S0 S σ H F k Q q => by
  obtain ⟨v, h1, h2⟩ := k.ow h
  exact ⟨v, h1, q v S H (Same.refl _) k (.inr ⟨i, h1, h⟩)⟩
theorem EvL.ev {xs : List α} (h : EvL K te G xs G1) : EvX K te G xs G1 := fun B S0 S σ H F k Q q => h B S0 S σ H F k Q fun p vs S' H' e k' hs hb hf hp r =>
  q _ (upd S' p (.lst vs)) H' (e.trans (same_new hs)) (k'.settle hp hs hb hf) ⟨p, vs, rfl, upd_same, r.mono (same_new hs)⟩
theorem EvL.c {xs : List α} (h : EvL K te G xs G1) : EvC K te G xs G1 := h.ev.c
theorem ev_i0 {f : Int → Int → Int} {a b : Int} (ha : EvX K ta G a G1) (hb : EvX K tb G1 b G2) : EvX K (tOp (rI0 fun i j => .int (f i j)) ta tb) G (f a b) G2 := fun B S0 S σ H F k Q q =>
  ha B S0 S σ H F k _ fun v S1 H1 e1 k1 r1 => hb B S0 S1 σ H1 F k1 _ fun u S2 H2 e2 k2 r2 => ⟨a, b, r1, r2, q _ S2 H2 (e1.trans e2) k2 rfl⟩
theorem ev_iC {C : Int → Int → Prop} {f : Int → Int → Int} {a b : Int} (ha : EvX K ta G a G1) (hb : EvX K tb G1 b G2) (hc : C a b) : EvX K (tOp (rI C fun i j => .int (f i j)) ta tb) G (f a b) G2 := fun B S0 S σ H F k Q q =>
  ha B S0 S σ H F k _ fun v S1 H1 e1 k1 r1 => hb B S0 S1 σ H1 F k1 _ fun u S2 H2 e2 k2 r2 => ⟨a, b, r1, r2, hc, q _ S2 H2 (e1.trans e2) k2 rfl⟩
theorem ev_b0 {f : Int → Int → Bool} {a b : Int} (ha : EvX K ta G a G1) (hb : EvX K tb G1 b G2) : EvX K (tOp (rI0 fun i j => .bl (f i j)) ta tb) G (f a b) G2 := fun B S0 S σ H F k Q q =>
  ha B S0 S σ H F k _ fun v S1 H1 e1 k1 r1 => hb B S0 S1 σ H1 F k1 _ fun u S2 H2 e2 k2 r2 => ⟨a, b, r1, r2, q _ S2 H2 (e1.trans e2) k2 rfl⟩
theorem ev_neg {a : Int} (ha : EvX K ta G a G1) : EvX K (tUn (rU fun i => .int (-i)) ta) G (-a) G1 := fun B S0 S σ H F k Q q =>
  ha B S0 S σ H F k _ fun v S1 H1 e1 k1 r1 => ⟨a, r1, q _ S1 H1 e1 k1 rfl⟩
class Sc (α : Type) [Py α] where
  val : α → V
  of : ∀ {K : Fg} {S : Hp} {v : V} {x : α}, Py.rep K S v x → v = val x
  inj : ∀ {x y : α}, val x = val y → x = y
  sc : ∀ x y : α, scal (val x) (val y) = true
instance : Sc Int := ⟨V.int, fun h => h, fun h => V.int.inj h, fun _ _ => rfl⟩
instance : Sc Bool := ⟨V.bl, fun h => h, fun h => V.bl.inj h, fun _ _ => rfl⟩
instance : Sc Str := ⟨V.str, fun h => h, fun h => V.str.inj h, fun _ _ => rfl⟩
theorem Sc.dec {δ : Type} [Py δ] [Sc δ] [DecidableEq δ] (x y : δ) : decide (Sc.val x = Sc.val y) = decide (x = y) := by
  by_cases e : x = y
  · rw [e, decide_eq_true rfl, decide_eq_true rfl]
  · rw [decide_eq_false e, decide_eq_false fun q => e (Sc.inj q)]
theorem ev_eq {δ : Type} [Py δ] [Sc δ] [DecidableEq δ] {a b : δ} (ha : EvX K ta G a G1) (hb : EvX K tb G1 b G2) : EvX K (tOp rEq ta tb) G (decide (a = b)) G2 := fun B S0 S σ H F k Q q =>
  ha B S0 S σ H F k _ fun v S1 H1 e1 k1 r1 => hb B S0 S1 σ H1 F k1 _ fun u S2 H2 e2 k2 r2 => by
    rw [Sc.of r1, Sc.of r2]
    exact ⟨Sc.sc a b, q _ S2 H2 (e1.trans e2) k2 (by rw [Sc.dec]; rfl)⟩
section
variable {t u : TT} {b c : Bool}
theorem et_test (h : EvX K te G b G1) : EvT K (tTest te) G b G1 := fun B S0 S σ H F k Q q => h B S0 S σ H F k _ fun v S1 H1 e1 k1 r1 => ⟨b, r1, q S1 H1 e1 k1⟩
theorem et_B (h : EvX K te G b G1) : EvT K (tB te) G b G1 := fun B S0 S σ H F k Q q => h B S0 S σ H F k _ fun v S1 H1 e1 k1 r1 => ⟨b, r1, q S1 H1 e1 k1⟩
theorem et_and (h1 : EvT K t G b G) (h2 : b = true → EvT K u G c G) : EvT K (tAnd t u) G (b && c) G := fun B S0 S σ H F k Q q => h1 B S0 S σ H F k _ fun S1 H1 e1 k1 => by
  cases b with
  | true =>
    show u σ H1 Q
    exact h2 rfl B S0 S1 σ H1 F k1 Q fun S2 H2 e2 k2 => q S2 H2 (e1.trans e2) k2
  | false =>
    show Q false H1
    exact q S1 H1 e1 k1
theorem et_or (h1 : EvT K t G b G) (h2 : b = false → EvT K u G c G) : EvT K (tOr t u) G (b || c) G := fun B S0 S σ H F k Q q => h1 B S0 S σ H F k _ fun S1 H1 e1 k1 => by
  cases b with
  | true =>
    show Q true H1
    exact q S1 H1 e1 k1
  | false =>
    show u σ H1 Q
    exact h2 rfl B S0 S1 σ H1 F k1 Q fun S2 H2 e2 k2 => q S2 H2 (e1.trans e2) k2
theorem et_not (h1 : EvT K t G b G1) : EvT K (tNot t) G (!b) G1 := fun B S0 S σ H F k Q q => h1 B S0 S σ H F k _ fun S1 H1 e1 k1 => q S1 H1 e1 k1
theorem et_yes : EvT K tYes G true G := fun B S0 S σ H F k Q q => q S H (Same.refl _) k
end
theorem els_nil : EvLs K tNil G ([] : List α) G := fun B S0 S σ H F k Q q => q [] S H (Same.refl _) k True.intro
theorem els_cons {tr : TA} {xs : List α} (h : EvX K ta G x G1) (hr : EvLs K tr G1 xs G2) : EvLs K (tCons ta tr) G (x :: xs) G2 := fun B S0 S σ H F k Q q =>
  h B S0 S σ H F k _ fun v S1 H1 e1 k1 r1 => hr B S0 S1 σ H1 F k1 _ fun vs S2 H2 e2 k2 r2 => q (v :: vs) S2 H2 (e1.trans e2) k2 ⟨Py.mono e2 r1, r2⟩
theorem ea_nil : EvA K tNil G () G := fun B S0 S σ H F k Q q => q [] S H (Same.refl _) k rfl
theorem ea_cons {δ : Type} [PyA δ] {tr : TA} {xs : δ} (h : EvX K ta G x G1) (hr : EvA K tr G1 xs G2) : EvA K (tCons ta tr) G (x, xs) G2 := fun B S0 S σ H F k Q q =>
  h B S0 S σ H F k _ fun v S1 H1 e1 k1 r1 => hr B S0 S1 σ H1 F k1 _ fun vs S2 H2 e2 k2 r2 => q (v :: vs) S2 H2 (e1.trans e2) k2 ⟨v, vs, rfl, Py.mono e2 r1, r2⟩
theorem el_lst {t : TA} {xs : List α} (h : EvLs K t G xs G1) (hl : xs.length ≤ 1000) : EvL K (tLst t) G xs G1 := fun B S0 S σ H F k Q q =>
  h B S0 S σ H F k _ fun vs S1 H1 e1 k1 r1 => ⟨by rw [r1.len]; exact Nat.le_trans hl (by decide), fun p hp => by
    obtain ⟨a, b, c⟩ := k1.free hp
    exact q p vs S1 _ e1 (k1.raw hp) a b c upd_same r1⟩
theorem ev_pair (ha : EvX K ta G x G1) (hb : EvX K tb G1 y G2) : EvX K (tTup (tCons ta (tCons tb tNil))) G (x, y) G2 := fun B S0 S σ H F k Q q =>
  ha B S0 S σ H F k _ fun v S1 H1 e1 k1 r1 => hb B S0 S1 σ H1 F k1 _ fun u S2 H2 e2 k2 r2 => ⟨by show 2 ≤ sizeLine; decide, fun p hp => by
    have e3 := same_new (o := .tup [v, u]) (k2.free hp).1
    exact q (.ref p) _ _ ((e1.trans e2).trans e3) (k2.new hp) ⟨p, v, u, rfl, SqT.of upd_same, Py.mono (e2.trans e3) r1, Py.mono e3 r2⟩⟩
theorem ev_t3 (ha : EvX K ta G x G1) (hb : EvX K tb G1 y G2) (hc : EvX K tc G2 z G3) : EvX K (tTup (tCons ta (tCons tb (tCons tc tNil)))) G (T3.mk x y z) G3 := fun B S0 S σ H F k Q q =>
  ha B S0 S σ H F k _ fun v S1 H1 e1 k1 r1 => hb B S0 S1 σ H1 F k1 _ fun u S2 H2 e2 k2 r2 => hc B S0 S2 σ H2 F k2 _ fun w S3 H3 e3 k3 r3 => ⟨by show 3 ≤ sizeLine; decide, fun p hp => by
    have e4 := same_new (o := .tup [v, u, w]) (k3.free hp).1
    exact q (.ref p) _ _ (((e1.trans e2).trans e3).trans e4) (k3.new hp) ⟨p, v, u, w, rfl, SqT.of upd_same, Py.mono ((e2.trans e3).trans e4) r1, Py.mono (e3.trans e4) r2, Py.mono e4 r3⟩⟩
def ix {δ : Type} [Inhabited δ] (xs : List δ) (i : Int) : δ := xs.getD i.toNat default
theorem ix_at {δ : Type} [Inhabited δ] {xs : List δ} {i : Int} (h0 : 0 ≤ i) (h1 : i < xs.length) : xs[i.toNat]? = some (ix xs i) := by
  unfold ix
  rw [List.getD_eq_getElem?_getD]
  rw [List.getElem?_eq_getElem (by omega)]
  rfl
theorem atI_of {vs : List V} {i : Int} {v : V} (h0 : 0 ≤ i) (h : vs[i.toNat]? = some v) : atI vs i = some v := by
  have e : i = ((i.toNat : Nat) : Int) := by omega
  rw [e]
  exact atI_nat h
theorem ev_ix [Inhabited α] {xs : List α} {n : Int} (ha : EvX K ta G xs G1) (hb : EvX K tb G1 n G2) (h : 0 ≤ n ∧ n < xs.length) : EvX K (tOp (rIxL K) ta tb) G (ix xs n) G2 := fun B S0 S σ H F k Q q =>
  ha B S0 S σ H F k _ fun v S1 H1 e1 k1 r1 => hb B S0 S1 σ H1 F k1 _ fun u S2 H2 e2 k2 r2 => by
    obtain ⟨p, vs, rfl, hp, hr⟩ := Py.mono e2 r1
    obtain ⟨w, h1, h2⟩ := hr.get (ix_at h.1 h.2)
    exact ⟨p, vs, n, w, rfl, r2, SqL.of (k2.sub _ _ hp), atI_of h.1 h1, q w S2 H2 (e1.trans e2) k2 h2⟩
theorem ev_fst {xy : α × β} (ha : EvX K ta G xy G1) : EvX K (tOp (rIxT K) ta (tC (.int 0))) G xy.1 G1 := fun B S0 S σ H F k Q q =>
  ha B S0 S σ H F k _ fun v S1 H1 e1 k1 r1 => by
    obtain ⟨p, a, b, rfl, hp, h1, h2⟩ := r1
    exact ⟨p, _, 0, a, rfl, rfl, seqT k1.sub hp, atI_nat (j := 0) rfl, q a S1 H1 e1 k1 h1⟩
theorem ev_3b {w : T3 α β γ} (ha : EvX K ta G w G1) : EvX K (tOp (rIxT K) ta (tC (.int 1))) G w.b G1 := fun B S0 S σ H F k Q q =>
  ha B S0 S σ H F k _ fun v S1 H1 e1 k1 r1 => by
    obtain ⟨p, a, b, c, rfl, hp, h1, h2, h3⟩ := r1
    exact ⟨p, _, 1, b, rfl, rfl, seqT k1.sub hp, atI_nat (j := 1) rfl, q b S1 H1 e1 k1 h2⟩
def rLenS (K : Fg) : List V → Hp → VK → Prop := fun xs H Q => ∃ p ys, xs = [.ref p] ∧ (SqL K H p ys ∨ SqT K H p ys) ∧ Q (.int ys.length) H
theorem call_lenG {X : Cx} : CallR X (.builtin "len") (rLenS X.K) := call_len_seq
theorem ev_len {xs : List α} (ha : EvC K ta G xs G1) : EvX K (tCB (rLenS K) (tCons ta tNil)) G (xs.length : Int) G1 := fun B S0 S σ H F k Q q =>
  ha B S0 S σ H F k _ fun v S1 H1 e1 k1 r1 => by
    obtain ⟨p, vs, rfl, hp, hr⟩ := r1.at k1
    exact ⟨p, vs, rfl, .inl (SqL.of hp), q _ S1 H1 e1 k1 (by rw [hr.len]; rfl)⟩
theorem ev_lenT {xs : Tp α} (ha : EvX K ta G xs G1) : EvX K (tCB (rLenS K) (tCons ta tNil)) G (xs.l.length : Int) G1 := fun B S0 S σ H F k Q q =>
  ha B S0 S σ H F k _ fun v S1 H1 e1 k1 r1 => by
    obtain ⟨p, vs, rfl, hp, hr⟩ := r1
    exact ⟨p, vs, rfl, .inr (seqT k1.sub hp), q _ S1 H1 e1 k1 (by rw [hr.len]; rfl)⟩
theorem ev_lenS {xs : Scr} (ha : EvX K ta G xs G1) : EvX K (tCB (rLenS K) (tCons ta tNil)) G (xs.l.length : Int) G1 := fun B S0 S σ H F k Q q =>
  ha B S0 S σ H F k _ fun v S1 H1 e1 k1 r1 => by
    obtain ⟨p, rfl, hp⟩ := r1
    exact ⟨p, _, rfl, .inl (k1.sub.seq hp), q _ S1 H1 e1 k1 (by rw [List.length_map]; rfl)⟩
def rMin2 : List V → Hp → VK → Prop := fun xs H Q => ∃ i j, xs = [.int i, .int j] ∧ Q (.int (if j < i then j else i)) H
def rMax2 : List V → Hp → VK → Prop := fun xs H Q => ∃ i j, xs = [.int i, .int j] ∧ Q (.int (if j > i then j else i)) H
theorem call_minG {X : Cx} (hc : X.calm = true) : CallR X (.builtin "min") rMin2 := call_min2 hc
theorem call_maxG {X : Cx} (hc : X.calm = true) : CallR X (.builtin "max") rMax2 := call_max2 hc
theorem ev_min {a b : Int} (ha : EvX K ta G a G1) (hb : EvX K tb G1 b G2) : EvX K (tCB rMin2 (tCons ta (tCons tb tNil))) G (min a b) G2 := fun B S0 S σ H F k Q q =>
  ha B S0 S σ H F k _ fun v S1 H1 e1 k1 r1 => hb B S0 S1 σ H1 F k1 _ fun u S2 H2 e2 k2 r2 => ⟨a, b, by rw [show v = .int a from r1, show u = .int b from r2], q _ S2 H2 (e1.trans e2) k2 (by
    show V.int _ = V.int _
    congr 1
    rw [Int.min_def]
    split <;> split <;> omega)⟩
theorem ev_max {a b : Int} (ha : EvX K ta G a G1) (hb : EvX K tb G1 b G2) : EvX K (tCB rMax2 (tCons ta (tCons tb tNil))) G (max a b) G2 := fun B S0 S σ H F k Q q =>
  ha B S0 S σ H F k _ fun v S1 H1 e1 k1 r1 => hb B S0 S1 σ H1 F k1 _ fun u S2 H2 e2 k2 r2 => ⟨a, b, by rw [show v = .int a from r1, show u = .int b from r2], q _ S2 H2 (e1.trans e2) k2 (by
    show V.int _ = V.int _
    congr 1
    rw [Int.max_def]
    split <;> split <;> omega)⟩
def rInt1 : List V → Hp → VK → Prop := fun xs H Q => (∃ i, xs = [.int i] ∧ Q (.int i) H) ∨ ∃ k, xs = [.bl k] ∧ Q (.int (if k then 1 else 0)) H
theorem call_intG {X : Cx} : CallR X (.type "int") rInt1 := call_int1
theorem ev_intB {b : Bool} (ha : EvX K ta G b G1) : EvX K (tCB rInt1 (tCons ta tNil)) G (if b then (1 : Int) else 0) G1 := fun B S0 S σ H F k Q q =>
  ha B S0 S σ H F k _ fun v S1 H1 e1 k1 r1 => .inr ⟨b, by rw [show v = .bl b from r1], q _ S1 H1 e1 k1 rfl⟩
theorem el_dnew : ∀ {B S0 S : Hp} {σ : St} {H : Hp} {F : Nat → List Addr} {Q : VK}, Kn K B S0 S σ H F G → (∀ p H', Kn K B S0 S σ H' F G → S p = none → B p = none → (∀ j, p ∉ F j) → H' p = some (.dK []) → Q (.ref p) H') → tDNewK σ H Q := fun k q p hp => by
  obtain ⟨a, b, c⟩ := k.free hp
  exact q p _ (k.raw hp) a b c upd_same
theorem RepD.get {δ : Type} [Py δ] {K : Fg} {S : Hp} {kvs : List (Key × V)} {d : Dct δ} {k : Int} (h : RepD K S kvs d.l) : (∀ x, d.get? k = some x → ∃ v, valV kvs (Sum.inl k) = some v ∧ Py.rep K S v x) ∧ (d.get? k = none → valV kvs (Sum.inl k) = none) := by
  have q := h.val k
  unfold Dct.get?
  constructor
  · intro x e
    rw [e] at q
    exact q
  · intro e
    rw [e] at q
    exact q
theorem RepD.isSome {δ : Type} [Py δ] {K : Fg} {S : Hp} {kvs : List (Key × V)} {d : Dct δ} (k : Int) (h : RepD K S kvs d.l) : (valV kvs (Sum.inl k)).isSome = (d.get? k).isSome := by
  obtain ⟨h1, h2⟩ := h.get (k := k)
  cases e : d.get? k with
  | none => rw [h2 e]; rfl
  | some x =>
    obtain ⟨v, h3, _⟩ := h1 x e
    rw [h3]
    rfl
theorem dgetI {H : Hp} {a : Addr} {kvs : List (Key × V)} {k : Int} (e : H a = some (.dK kvs)) : DGet H a (.int k) (valV kvs (Sum.inl k)) := DGet.k (k := Sum.inl k) e
theorem ev_din {d : Dct α} {n : Int} (hk : EvX K ta G n G1) (hd : EvD K tb G1 d G2) : EvX K (tDIn ta tb) G (d.get? n).isSome G2 := fun B S0 S σ H F k Q q =>
  hk B S0 S σ H F k _ fun v S1 H1 e1 k1 r1 => hd B S0 S1 σ H1 F k1 _ fun u S2 H2 e2 k2 r2 => by
    obtain ⟨p, kvs, rfl, hp, hr⟩ := r2.at k2
    rw [show v = .int n from r1]
    exact ⟨p, _, rfl, dgetI hp, q _ S2 H2 (e1.trans e2) k2 (by rw [hr.isSome]; rfl)⟩
theorem ev_dnotin {d : Dct α} {n : Int} (hk : EvX K ta G n G1) (hd : EvD K tb G1 d G2) : EvX K (tDNotIn ta tb) G (!(d.get? n).isSome) G2 := fun B S0 S σ H F k Q q =>
  hk B S0 S σ H F k _ fun v S1 H1 e1 k1 r1 => hd B S0 S1 σ H1 F k1 _ fun u S2 H2 e2 k2 r2 => by
    obtain ⟨p, kvs, rfl, hp, hr⟩ := r2.at k2
    rw [show v = .int n from r1]
    exact ⟨p, _, rfl, dgetI hp, q _ S2 H2 (e1.trans e2) k2 (by rw [hr.isSome]; rfl)⟩
def dix {δ : Type} [Inhabited δ] (d : Dct δ) (k : Int) : δ := (d.get? k).getD default
theorem ev_dget [Inhabited α] {d : Dct α} {n : Int} (hd : EvD K ta G d G1) (hk : EvX K tb G1 n G1) (h : (d.get? n).isSome = true) : EvX K (tDGet ta tb) G (dix d n) G1 := fun B S0 S σ H F k Q q =>
  hd B S0 S σ H F k _ fun v S1 H1 e1 k1 r1 => hk B S0 S1 σ H1 F k1 _ fun u S2 H2 e2 k2 r2 => by
    obtain ⟨p, kvs, rfl, hp, hr⟩ := (r1.mono e2).at k2
    rw [show u = .int n from r2]
    cases e : d.get? n with
    | none => rw [e] at h; cases h
    | some x' =>
      obtain ⟨w, h1, h2⟩ := (hr.get (k := n)).1 x' e
      have g := dgetI (k := n) hp
      rw [h1] at g
      refine ⟨p, w, rfl, g, q w S2 H2 (e1.trans e2) k2 ?_⟩
      unfold dix
      rw [e]
      exact h2
theorem ev_dget2 {d : Dct α} {n : Int} (hd : EvD K ta G d G1) (hk : EvX K tb G1 n G1) (hx : EvX K tc G1 x G1) : EvX K (tDGet2 ta tb tc) G ((d.get? n).getD x) G1 := fun B S0 S σ H F k Q q =>
  hd B S0 S σ H F k _ fun v S1 H1 e1 k1 r1 => by
    obtain ⟨p, kvs, rfl, hp, hr⟩ := r1.at k1
    refine ⟨p, rfl, .inl ⟨kvs, .inl hp⟩, hk B S0 S1 σ H1 F k1 _ fun u S2 H2 e2 k2 r2 => hx B S0 S2 σ H2 F k2 _ fun w S3 H3 e3 k3 r3 => ?_⟩
    obtain ⟨p', kvs', ep, hp', hr'⟩ := (r1.mono (e2.trans e3)).at k3
    cases ep
    rw [show u = .int n from r2]
    refine ⟨_, dgetI hp', q _ S3 H3 ((e1.trans e2).trans e3) k3 ?_⟩
    obtain ⟨h1, h2⟩ := hr'.get (k := n)
    cases e : d.get? n with
    | none => rw [h2 e]; exact r3
    | some x' =>
      obtain ⟨w', h3, h4⟩ := h1 x' e
      rw [h3]
      exact h4
end
def spF {α β : Type} [PyA α] [Py β] (K : Fg) (f : α → β) (pre : α → Prop) : Sp := fun vs H Q _ => ∃ (S : Hp) (a : α), Same S H ∧ PyA.rep K S vs a ∧ pre a ∧ ∀ v S' H', Grow S H S' H' → Py.rep K S' v (f a) → Q v H'
def spL {α β : Type} [PyA α] [Py β] (K : Fg) (f : α → List β) (pre : α → Prop) : Sp := fun vs H Q _ => ∃ (S : Hp) (a : α), Same S H ∧ PyA.rep K S vs a ∧ pre a ∧
  ∀ p us S' H', Grow S H S' H' → H p = none → S' p = none → H' p = some (.lst us) → RepL K S' us (f a) → Q (.ref p) H'
section
variable {α β : Type} [PyA α] [Py β] {G1 : List Sl} {f : α → β} {pre : α → Prop} {a : α} {t : TA} {E : XK}
theorem ev_call (ha : EvA K t G a G1) (hp : pre a) : EvX K (tCall (spF K f pre) [] E t) G (f a) G1 := fun B S0 S σ H F k Q q =>
  ha B S0 S σ H F k _ fun vs S1 H1 e1 k1 r1 => by
    rw [List.append_nil]
    exact ⟨S1, a, k1.sub, r1, hp, fun v S2 H2 g r2 => q v S2 H2 (e1.trans g.s) (k1.grow g) r2⟩
end
end
end GL
namespace GL
open PySem L2
theorem wipe_get (σ : St) : ∀ (vs : List Nat) (k : Nat), (wipe σ vs)[k]? = if k ∈ vs ∧ k < σ.length then some none else σ[k]?
  | [], k => by simp [wipe]
  | v :: vs, k => by
    unfold wipe
    have ih := wipe_get σ vs k
    have hl := wipe_length σ vs
    by_cases e : v = k
    · subst e
      by_cases h : v < σ.length
      · rw [List.getElem?_set_self (by rw [hl]; exact h), if_pos ⟨List.mem_cons_self, h⟩]
      · rw [List.getElem?_eq_none (by rw [List.length_set, hl]; omega), if_neg (fun q => h q.2), List.getElem?_eq_none (by omega)]
    · rw [List.getElem?_set_ne e, ih]
      have : (k ∈ v :: vs) ↔ k ∈ vs := by
        simp only [List.mem_cons]
        exact ⟨fun q => q.resolve_left fun z => e z.symm, .inr⟩
      simp only [this]
theorem wipe_set {σ : St} {vs : List Nat} {j : Nat} {y : Option V} (h : j ∈ vs) : wipe (σ.set j y) vs = wipe σ vs := by
  apply List.ext_getElem?
  intro k
  rw [wipe_get, wipe_get, List.length_set]
  by_cases e : k ∈ vs ∧ k < σ.length
  · rw [if_pos e, if_pos e]
  · rw [if_neg e, if_neg e]
    by_cases ej : j = k
    · subst ej
      have : ¬ j < σ.length := fun q => e ⟨h, q⟩
      rw [List.getElem?_eq_none (by rw [List.length_set]; omega), List.getElem?_eq_none (by omega)]
    · rw [List.getElem?_set_ne ej]
def wipeG (G : List Sl) : List Nat → List Sl
  | [] => G
  | v :: vs => (wipeG G vs).set v .no
section
variable {K : Fg} {B S0 S1 S S' : Hp} {σ : St} {H H' : Hp} {F : Nat → List Addr} {G G' : List Sl}
theorem Kn.wipe (k : Kn K B S0 S σ H F G) : ∀ vs : List Nat, Kn K B S0 S (wipe σ vs) H F (wipeG G vs)
  | [] => k
  | v :: vs => (Kn.wipe k vs).setNo
theorem Kn.pin {p : Addr} {o : HO} (k : Kn K B S0 S σ H F G) (h : H p = some o) (hs : S p = none) (hf : ∀ j, p ∉ F j) : Kn K (upd B p o) S0 S σ H F G := by
  refine ⟨k.s0, k.sub, fun b x q => ?_, fun b x q => ?_, fun i b hb => ?_, k.dj, k.len, k.sl⟩
  · by_cases e : b = p
    · subst e
      rw [upd_same] at q
      rw [h, q]
    · rw [upd_ne e] at q
      exact k.keep b x q
  · by_cases e : b = p
    · subst e
      rw [hs, k.s0.free hs]
    · rw [upd_ne e] at q
      exact k.clean b x q
  · obtain ⟨h1, h2, h3⟩ := k.off i b hb
    have ne : b ≠ p := fun z => hf i (z ▸ hb)
    exact ⟨h1, by rw [upd_ne ne]; exact h2, h3⟩
theorem Kn.poke {p : Addr} {o : HO} (k : Kn K B S0 S σ H F G) (hs : S p = none) (hb : B p = none) (hf : ∀ j, p ∉ F j) : Kn K B S0 S σ (upd H p o) F G := by
  refine ⟨k.s0, fun b x q => ?_, fun b x q => ?_, k.clean, fun i b hb' => ?_, k.dj, k.len, fun i s q => ?_⟩
  · rw [upd_ne (ne_of_none q hs)]
    exact k.sub b x q
  · rw [upd_ne (ne_of_none q hb)]
    exact k.keep b x q
  · obtain ⟨h1, h2, w, h3⟩ := k.off i b hb'
    have ne : b ≠ p := fun z => hf i (z ▸ hb')
    exact ⟨h1, h2, w, by rw [upd_ne ne]; exact h3⟩
  · have z := k.sl i s q
    cases s with
    | no => exact True.intro
    | im x => exact z
    | ow x =>
      obtain ⟨v, h1, h2⟩ := z
      exact ⟨v, h1, Own.mono (Same.refl _) (fun b hb' => upd_ne fun z => hf i (z ▸ hb')) h2⟩
def TgG {α : Type} [Py α] (K : Fg) (g : TG) (x : α) (G G' : List Sl) (ts : List Nat) : Prop := (∀ j : Nat, j ∉ ts → G'[j]? = G[j]?) ∧
  ∀ B S0 S σ H F v, Kn K B S0 S σ H F G → Py.rep K S v x → ∀ Q : St → Hp → Prop, (∀ σ', Kn K B S0 S σ' H F G' → (∀ j : Nat, j ∉ ts → σ'[j]? = σ[j]?) → (∀ vs : List Nat, (∀ t ∈ ts, t ∈ vs) → L2.wipe σ' vs = L2.wipe σ vs) → Q σ' H) → g v σ H Q
section
variable {α β γ : Type} [Py α] [Py β] [Py γ] {x : α} {y : β} {z : γ} {g1 g2 g3 : TG} {G1 G2 G3 : List Sl} {t1 t2 t3 : List Nat}
theorem ne_of_notIn {j k : Nat} (h : k ∉ [j]) : j ≠ k := fun e => h (List.mem_singleton.mpr e.symm)
theorem tg_name {j : Nat} (hj : G[j]?.isSome = true) : TgG K (gName j) x G (G.set j (.im x)) [j] := ⟨fun k hk => List.getElem?_set_ne (ne_of_notIn hk), fun B S0 S σ H F v k r Q q =>
  q _ (k.set r hj) (fun k hk => List.getElem?_set_ne (ne_of_notIn hk)) fun vs hv => wipe_set (hv j (List.mem_singleton.mpr rfl))⟩
theorem notL {t1 t2 : List Nat} {j : Nat} (h : j ∉ t1 ++ t2) : j ∉ t1 ∧ j ∉ t2 := ⟨fun q => h (List.mem_append_left _ q), fun q => h (List.mem_append_right _ q)⟩
theorem tg_pair {xy : α × β} (h1 : TgG K g1 xy.1 G G1 t1) (h2 : TgG K g2 xy.2 G1 G2 t2) : TgG K (gTup K 2 (gCons g1 (gCons g2 gNil))) xy G G2 (t1 ++ t2) := ⟨fun j hj => (h2.1 j (notL hj).2).trans (h1.1 j (notL hj).1), fun B S0 S σ H F v k r Q q => by
  obtain ⟨p, a, b, rfl, hp, ra, rb⟩ := r
  refine ⟨p, [a, b], rfl, seqT k.sub hp, rfl, a, [b], rfl, h1.2 B S0 S σ H F a k ra _ fun σ1 k1 o1 w1 => ⟨b, [], rfl, h2.2 B S0 S σ1 H F b k1 rb _ fun σ2 k2 o2 w2 => ⟨rfl, q σ2 k2 (fun j hj => (o2 j (notL hj).2).trans (o1 j (notL hj).1)) fun vs hv => ?_⟩⟩⟩
  rw [w2 vs fun t ht => hv t (List.mem_append_right _ ht), w1 vs fun t ht => hv t (List.mem_append_left _ ht)]⟩
theorem tg_t3 {xy : T3 α β γ} (h1 : TgG K g1 xy.a G G1 t1) (h2 : TgG K g2 xy.b G1 G2 t2) (h3 : TgG K g3 xy.c G2 G3 t3) : TgG K (gTup K 3 (gCons g1 (gCons g2 (gCons g3 gNil)))) xy G G3 (t1 ++ (t2 ++ t3)) := ⟨fun j hj => ((h3.1 j (notL (notL hj).2).2).trans (h2.1 j (notL (notL hj).2).1)).trans (h1.1 j (notL hj).1), fun B S0 S σ H F v k r Q q => by
  obtain ⟨p, a, b, c, rfl, hp, ra, rb, rc⟩ := r
  refine ⟨p, [a, b, c], rfl, seqT k.sub hp, rfl, a, [b, c], rfl, h1.2 B S0 S σ H F a k ra _ fun σ1 k1 o1 w1 => ⟨b, [c], rfl, h2.2 B S0 S σ1 H F b k1 rb _ fun σ2 k2 o2 w2 => ⟨c, [], rfl, h3.2 B S0 S σ2 H F c k2 rc _ fun σ3 k3 o3 w3 =>
    ⟨rfl, q σ3 k3 (fun j hj => ((o3 j (notL (notL hj).2).2).trans (o2 j (notL (notL hj).2).1)).trans (o1 j (notL hj).1)) fun vs hv => ?_⟩⟩⟩⟩
  rw [w3 vs fun t ht => hv t (List.mem_append_right _ (List.mem_append_right _ ht)), w2 vs fun t ht => hv t (List.mem_append_right _ (List.mem_append_left _ ht)), w1 vs fun t ht => hv t (List.mem_append_left _ ht)]⟩
end
section
variable {α β γ : Type} [Py α] [Py β] [Py γ] {x : α} {y : β} {G1 G2 : List Sl} {te ta tb : TE} {t u w : TS} {E : Ends} {tt : TT} {b : Bool} {i j : Nat} {g : TG} {ts : List Nat}
theorem q_next (h : At K B S0 E.nx G) : At K B S0 (tNext E) G := h
theorem q_asg (h : EvX K te G x G1) (hg : TgG K g x G1 G2 ts) (k : At K B S0 (u E) G2) : At K B S0 (tSeq (tAsg te g) u E) G := fun S σ H F kn =>
  h B S0 S σ H F kn _ fun v S' H' e kn' r => hg.2 B S0 S' σ H' F v kn' r _ fun σ' k2 _ _ => k S' σ' H' F k2
theorem q_set (h : EvX K te G x G1) (hi : G1[i]?.isSome = true) (k : At K B S0 (u E) (G1.set i (.im x))) : At K B S0 (tSeq (tAsg te (gName i)) u E) G := q_asg h (tg_name hi) k
theorem q_own {xs : List α} (h : EvL K te G xs G1) (hi : G1[i]?.isSome = true) (k : At K B S0 (u E) (G1.set i (.ow xs))) : At K B S0 (tSeq (tAsg te (gName i)) u E) G := fun S σ H F kn =>
  h B S0 S σ H F kn _ fun p vs S' H' e kn' hs hb hf hp r => k S' _ H' _ (kn'.setOwn (v := .ref p) ⟨p, vs, rfl, rfl, hp, r⟩ hi hs hb ⟨_, hp⟩ hf)
theorem q_dnew (α : Type) [Py α] (hi : G[i]?.isSome = true) (k : At K B S0 (u E) (G.set i (.ow (Dct.emp : Dct α)))) : At K B S0 (tSeq (tAsg tDNewK (gName i)) u E) G := fun S σ H F kn =>
  el_dnew (Q := fun x H1 => gName i x σ H1 (u E)) kn fun p H' kn' hs hb hf hp => k S _ H' _ (kn'.setOwn (v := .ref p) ⟨p, [], rfl, rfl, hp, True.intro⟩ hi hs hb ⟨_, hp⟩ hf)
theorem q_ret (h : EvX K te G x G1) (k : RT K B S0 E.rt x G1) : At K B S0 (tSeq (tRet te) u E) G := fun S σ H F kn =>
  h B S0 S σ H F kn _ fun v S' H' e kn' r => k S' σ H' F v kn' r
theorem q_if (h : EvT K tt G b G1) (h1 : b = true → At K B S0 (t { E with nx := u E }) G1) (h2 : b = false → At K B S0 (w { E with nx := u E }) G1) : At K B S0 (tSeq (tIfS tt t w) u E) G := fun S σ H F kn =>
  h B S0 S σ H F kn _ fun S' H' e kn' => by
    cases b with
    | true => exact h1 rfl S' σ H' F kn'
    | false => exact h2 rfl S' σ H' F kn'
theorem q_cut (P : List Sl → Prop) (h : At K B S0 (t { E with nx := Mid K B S0 P }) G) (k : ∀ G', P G' → At K B S0 (u E) G') : At K B S0 (Evl.tCut t u E) G := fun S σ H F kn =>
  ⟨Mid K B S0 P, h S σ H F kn, fun σ' H' ⟨S', F', G', kn', p⟩ => k G' p S' σ' H' F' kn'⟩
theorem q_cut1 (G' : List Sl) (h : At K B S0 (t { E with nx := Mid K B S0 (· = G') }) G) (k : At K B S0 (u E) G') : At K B S0 (Evl.tCut t u E) G := q_cut _ h fun _ e => by rw [e]; exact k
theorem q_ifc (h : EvT K tt G b G1) (h1 : b = true → At K B S0 (t E) G1) (h2 : b = false → At K B S0 (w E) G1) : At K B S0 (tIfS tt t w E) G := fun S σ H F kn =>
  h B S0 S σ H F kn _ fun S' H' e kn' => by
    cases b with
    | true => exact h1 rfl S' σ H' F kn'
    | false => exact h2 rfl S' σ H' F kn'
theorem own_list {xs : List α} (kn : Kn K B S0 S σ H F G) (h : G[i]? = some (.ow xs)) : ∃ p vs, σ[i]? = some (some (.ref p)) ∧ F i = [p] ∧ H p = some (.lst vs) ∧ RepL K S vs xs := by
  obtain ⟨v, h1, p, vs, rfl, h2, h3, h4⟩ := kn.ow h
  exact ⟨p, vs, h1, h2, h3, h4⟩
theorem own_listUpd {xs : List α} {p : Addr} {vs : List V} (kn : Kn K B S0 S σ H F G) (h1 : σ[i]? = some (some (.ref p))) (h2 : F i = [p]) (r : RepL K S vs xs) : Kn K B S0 S σ (upd H p (.lst vs)) F (G.set i (.ow xs)) := by
  refine kn.mut h1 (fun q hq => upd_ne fun z => hq (by rw [h2, z]; exact List.mem_singleton.mpr rfl)) (fun q hq => ?_) ?_
  · rw [h2] at hq
    cases List.mem_singleton.mp hq
    exact ⟨_, upd_same⟩
  · exact ⟨p, vs, rfl, h2, upd_same, r⟩
theorem own_dict {d : Dct α} (kn : Kn K B S0 S σ H F G) (h : G[i]? = some (.ow d)) : ∃ p kvs, σ[i]? = some (some (.ref p)) ∧ F i = [p] ∧ H p = some (.dK kvs) ∧ RepD K S kvs d.l := by
  obtain ⟨v, h1, p, vs, rfl, h2, h3, h4⟩ := kn.ow h
  exact ⟨p, vs, h1, h2, h3, h4⟩
theorem own_dictUpd {d : Dct α} {p : Addr} {kvs : List (Key × V)} (kn : Kn K B S0 S σ H F G) (h1 : σ[i]? = some (some (.ref p))) (h2 : F i = [p]) (r : RepD K S kvs d.l) : Kn K B S0 S σ (upd H p (.dK kvs)) F (G.set i (.ow d)) := by
  refine kn.mut h1 (fun q hq => upd_ne fun z => hq (by rw [h2, z]; exact List.mem_singleton.mpr rfl)) (fun q hq => ?_) ?_
  · rw [h2] at hq
    cases List.mem_singleton.mp hq
    exact ⟨_, upd_same⟩
  · exact ⟨p, kvs, rfl, h2, upd_same, r⟩
theorem q_app {xs xs' : List α} (hl : G[i]? = some (.ow xs)) (h : EvX K te G x G1) (hl1 : G1[i]? = some (.ow xs')) (hz : xs'.length < sizeLine) (k : At K B S0 (u E) (G1.set i (.ow (xs' ++ [x])))) :
    At K B S0 (tSeq (tDrop (tBM K "list" rAppend (tVar i) (tCons te tNil))) u E) G := fun S σ H F kn => by
  obtain ⟨p, vs, h1, h2, h3, h4⟩ := own_list kn hl
  refine ⟨.ref p, h1, .inl ⟨rfl, _, SqL.of h3⟩, h B S0 S σ H F kn _ fun v S' H' e kn' r => ?_⟩
  obtain ⟨p', vs', h1', h2', h3', h4'⟩ := own_list kn' hl1
  rw [h1] at h1'
  cases h1'
  exact ⟨p, vs', v, rfl, rfl, h3', by rw [h4'.len]; exact hz, k S' σ _ F (own_listUpd kn' h1 h2' (h4'.snoc r))⟩
theorem q_dput {d : Dct α} {n : Int} (h : EvX K te G x G1) (hk : EvX K tb G1 n G2) (hl1 : G1[i]? = some (.ow d)) {d' : Dct α} (hl : G2[i]? = some (.ow d')) (hz : d'.l.length < sizeLine) (k : At K B S0 (u E) (G2.set i (.ow (d'.put n x)))) :
    At K B S0 (tSeq (sDPut (tVar i) tb te) u E) G := fun S σ H F kn =>
  h B S0 S σ H F kn _ fun v S1 H1 e1 k1 r1 => by
    obtain ⟨p, vs, h1, h2, h3, h4⟩ := own_dict k1 hl1
    refine ⟨.ref p, h1, hk B S0 S1 σ H1 F k1 _ fun w S2 H2 e2 k2 r2 => ?_⟩
    obtain ⟨p', vs', h1', h2', h3', h4'⟩ := own_dict k2 hl
    rw [h1] at h1'
    cases h1'
    rw [show w = .int n from r2]
    exact ⟨p, _, rfl, DPut.k (k := Sum.inl n) h3' (by rw [h4'.len]; exact hz), k S2 σ _ F (own_dictUpd k2 h1 h2' (h4'.put n (Py.mono e2 r1)))⟩
end
def Wk {α : Type} [Py α] (K : Fg) (J : It) (S : Hp) (xs : List α) : Prop := ∀ S' H' i, Same S S' → Same S' H' →
  (∀ x, xs[i]? = some x → J.go i H' ∧ ∀ v H'', J.yld i H' v H'' → ∃ S'', Grow S' H' S'' H'' ∧ Py.rep K S'' v x) ∧ (xs.length ≤ i → J.stop i H')
def ItG {α : Type} [Py α] (K : Fg) (wi : TI) (G : List Sl) (xs : List α) (G' : List Sl) : Prop :=
  ∀ B S0 S σ H F, Kn K B S0 S σ H F G → ∀ R : It → Hp → Prop, (∀ J S' H', Same S S' → Kn K B S0 S' σ H' F G' → Wk K J S' xs → R J H') → wi σ H R
def rng (a b : Int) : List Int := (List.range (b - a).toNat).map fun (i : Nat) => a + (i : Int)
def enumI {α : Type} (xs : List α) : List (Int × α) := (xs.zipIdx).map fun p => ((p.2 : Int), p.1)
section
variable {α β : Type} [Py α] [Py β] {G1 G2 : List Sl} {tl ta tb : TE}
theorem wk_list {S : Hp} {p : Addr} {vs : List V} {xs : List α} (hp : S p = some (.lst vs)) (r : RepL K S vs xs) : Wk K (Itl K p) S xs := fun S' H' i e1 e2 => by
  have h1 : SqL K H' p vs := SqL.of (e2 _ _ (e1 _ _ hp))
  refine ⟨fun x hx => ?_, fun hl => ⟨vs, h1, by rw [r.len]; exact hl⟩⟩
  obtain ⟨v, hv, rv⟩ := r.get hx
  refine ⟨⟨vs, v, h1, hv⟩, fun w H'' y => ?_⟩
  obtain ⟨rfl, y⟩ := y
  have e := y vs h1
  rw [hv] at e
  cases e
  exact ⟨S', Grow.refl e2, Py.mono e1 rv⟩
theorem it_list {xs : List α} (h : EvX K tl G xs G1) : ItG K (iList K tl) G xs G1 := fun B S0 S σ H F k R q =>
  h B S0 S σ H F k _ fun v S1 H1 e1 k1 r1 => by
    obtain ⟨p, vs, rfl, hp, hr⟩ := r1
    exact ⟨p, rfl, ⟨vs, SqL.of (k1.sub _ _ hp)⟩, q _ S1 H1 e1 k1 (wk_list hp hr)⟩
theorem wk_tup {S : Hp} {p : Addr} {vs : List V} {xs : List α} (hp : SqT K S p vs) (r : RepL K S vs xs) : Wk K (Itt K p) S xs := fun S' H' i e1 e2 => by
  have h1 : SqT K H' p vs := seqT e2 (seqT e1 hp)
  refine ⟨fun x hx => ?_, fun hl => ⟨vs, h1, by rw [r.len]; exact hl⟩⟩
  obtain ⟨v, hv, rv⟩ := r.get hx
  refine ⟨⟨vs, v, h1, hv⟩, fun w H'' y => ?_⟩
  obtain ⟨rfl, y⟩ := y
  have e := y vs h1
  rw [hv] at e
  cases e
  exact ⟨S', Grow.refl e2, Py.mono e1 rv⟩
theorem it_tup {xs : Tp α} (h : EvX K tl G xs G1) : ItG K (iTup K tl) G xs.l G1 := fun B S0 S σ H F k R q =>
  h B S0 S σ H F k _ fun v S1 H1 e1 k1 r1 => by
    obtain ⟨p, vs, rfl, hp, hr⟩ := r1
    exact ⟨p, rfl, ⟨vs, seqT k1.sub hp⟩, q _ S1 H1 e1 k1 (wk_tup hp hr)⟩
theorem wk_rng {S : Hp} (a : Int) (n : Nat) : Wk K (Itr a n) S ((List.range n).map fun (i : Nat) => a + (i : Int)) := fun S' H' i e1 e2 => by
  refine ⟨fun x hx => ?_, fun hl => by rw [List.length_map, List.length_range] at hl; exact hl⟩
  have hi : i < n := by
    have := (List.getElem?_eq_some_iff.mp hx).1
    rw [List.length_map, List.length_range] at this
    exact this
  rw [List.getElem?_map, List.getElem?_range hi] at hx
  cases hx
  refine ⟨hi, fun w H'' y => ?_⟩
  obtain ⟨rfl, rfl⟩ := y
  exact ⟨S', Grow.refl e2, rfl⟩
theorem it_rng1 {n : Int} (h : EvX K ta G n G1) (hn : -4611686018427387904 ≤ n ∧ n < 4611686018427387904) : ItG K (iRng1 (tCons ta tNil)) G (rng 0 n) G1 := fun B S0 S σ H F k R q =>
  h B S0 S σ H F k _ fun v S1 H1 e1 k1 r1 => ⟨n, by rw [show v = .int n from r1], hn.1, hn.2, q _ S1 H1 e1 k1 (by
    have := wk_rng (K := K) (S := S1) 0 n.toNat
    unfold rng
    rw [Int.sub_zero]
    exact this)⟩
theorem it_rng2 {a n : Int} (ha : EvX K ta G a G1) (h : EvX K tb G1 n G2) (hn : (-4611686018427387904 ≤ a ∧ a < 4611686018427387904) ∧ -4611686018427387904 ≤ n ∧ n < 4611686018427387904) : ItG K (iRng2 (tCons ta (tCons tb tNil))) G (rng a n) G2 := fun B S0 S σ H F k R q =>
  ha B S0 S σ H F k _ fun v S1 H1 e1 k1 r1 => h B S0 S1 σ H1 F k1 _ fun w S2 H2 e2 k2 r2 => ⟨a, n, by rw [show v = .int a from r1, show w = .int n from r2], ⟨hn.1.1, hn.1.2, hn.2.1, hn.2.2⟩, q _ S2 H2 (e1.trans e2) k2 (wk_rng a _)⟩
theorem wk_enum {S : Hp} {p : Addr} {vs : List V} {xs : List α} (hp : S p = some (.lst vs)) (r : RepL K S vs xs) : Wk K (Ite K p) S (enumI xs) := fun S' H' i e1 e2 => by
  have h1 : SqL K H' p vs := SqL.of (e2 _ _ (e1 _ _ hp))
  have hlen : (enumI xs).length = xs.length := by unfold enumI; rw [List.length_map, List.length_zipIdx]
  refine ⟨fun x hx => ?_, fun hl => ⟨vs, h1, by rw [r.len, ← hlen]; exact hl⟩⟩
  have hi : i < xs.length := by
    rw [← hlen]
    exact (List.getElem?_eq_some_iff.mp hx).1
  have ex : x = ((i : Int), xs[i]) := by
    unfold enumI at hx
    rw [List.getElem?_map, List.getElem?_zipIdx, List.getElem?_eq_getElem hi] at hx
    simpa using hx.symm
  subst ex
  obtain ⟨v, hv, rv⟩ := r.get (List.getElem?_eq_getElem hi)
  refine ⟨⟨vs, v, h1, hv⟩, fun w H'' y => ?_⟩
  obtain ⟨T, u, rfl, hT, rfl, y⟩ := y
  have e := y vs h1
  rw [hv] at e
  cases e
  have g := Grow.new (o := .tup [.int (i : Nat), v]) e2 hT
  exact ⟨_, g, T, _, v, rfl, SqT.of upd_same, rfl, Py.mono (e1.trans g.s) rv⟩
theorem it_enum {xs : List α} (h : EvX K ta G xs G1) : ItG K (iEnum K (tCons ta tNil)) G (enumI xs) G1 := fun B S0 S σ H F k R q =>
  h B S0 S σ H F k _ fun v S1 H1 e1 k1 r1 => by
    obtain ⟨p, vs, rfl, hp, hr⟩ := r1
    exact ⟨p, vs, rfl, SqL.of (k1.sub _ _ hp), q _ S1 H1 e1 k1 (wk_enum hp hr)⟩
end
section
variable {α : Type} [Py α] {G1 : List Sl} {wi : TI} {g : TG} {tb u : TS} {E : Ends} {xs : List α}
theorem q_for (I : List α → List α → List Sl → Prop) (hi : ItG K wi G xs G1) (h0 : I [] xs G1)
    (hs : ∀ pre x post Gi, pre ++ x :: post = xs → I pre (x :: post) Gi → ∀ S1, Reb B S0 S1 → ∃ G2 ts, TgG K g x Gi G2 ts ∧ At K B S1 (tb { E with nx := Mid K B S1 (I (pre ++ [x]) post), ct := Mid K B S1 (I (pre ++ [x]) post), bk := u E }) G2)
    (hd : ∀ Gi, I xs [] Gi → At K B S0 (u E) Gi) : At K B S0 (tSeq (tFor wi g tb) u E) G := fun S σ H F kn =>
  hi B S0 S σ H F kn _ fun J S1 H1 e1 k1 wk => by
    have rb : Reb B S0 S1 := k1.rebOf
    refine ⟨fun i m σ H => ∃ pre post S F Gi, pre ++ post = xs ∧ pre.length = i ∧ post.length = m ∧ Kn K B S1 S σ H F Gi ∧ I pre post Gi, ⟨xs.length, [], xs, S1, F, G1, rfl, rfl, rfl, k1.reb, h0⟩, ?_⟩
    rintro i m σ' H' ⟨pre, post, S2, F2, Gi, ex, rfl, rfl, k2, p⟩
    cases post with
    | nil =>
      refine .inl ⟨(wk S2 H' pre.length k2.s0 k2.sub).2 (by rw [← ex, List.append_nil]; exact Nat.le_refl _), ?_⟩
      rw [List.append_nil] at ex
      subst ex
      exact hd Gi p S2 σ' H' F2 (k2.unreb rb)
    | cons x post =>
      have hx : xs[pre.length]? = some x := by
        rw [← ex, List.getElem?_append_right (Nat.le_refl _), Nat.sub_self]
        rfl
      obtain ⟨go, yl⟩ := (wk S2 H' pre.length k2.s0 k2.sub).1 x hx
      refine .inr ⟨go, Mid K B S1 (I (pre ++ [x]) post), ?_, ?_⟩
      · rintro σ3 H3 ⟨S3, F3, G3, k3, p3⟩
        exact ⟨post.length, by rw [List.length_cons]; omega, pre ++ [x], post, S3, F3, G3, by rw [← ex, List.append_assoc]; rfl, by rw [List.length_append]; rfl, rfl, k3, p3⟩
      · intro v H3 y
        obtain ⟨S3, gr, r⟩ := yl v H3 y
        obtain ⟨G2, ts, tg, bd⟩ := hs pre x post Gi ex p S1 rb
        exact tg.2 B S1 S3 σ' H3 F2 v (k2.grow gr) r _ fun σ4 k4 _ _ => bd S3 σ4 H3 F2 k4
theorem q_fold {τ : Type} (γ : τ → List Sl) (step : τ → α → τ) (s0 : τ) (hi : ItG K wi G xs G1) (h0 : Le (γ s0) G1)
    (hs : ∀ pre x post, pre ++ x :: post = xs → ∀ S1, Reb B S0 S1 → ∃ G2 ts, TgG K g x (γ (pre.foldl step s0)) G2 ts ∧
      At K B S1 (tb { E with nx := Mid K B S1 (· = γ (step (pre.foldl step s0) x)), ct := Mid K B S1 (· = γ (step (pre.foldl step s0) x)), bk := u E }) G2)
    (hd : At K B S0 (u E) (γ (xs.foldl step s0))) : At K B S0 (tSeq (tFor wi g tb) u E) G := by
  have hi' : ItG K wi G xs (γ s0) := fun B S0 S σ H F k R q => hi B S0 S σ H F k R fun J S' H' e k' w => q J S' H' e (k'.le h0) w
  refine q_for (fun pre post Gi => Gi = γ (pre.foldl step s0)) hi' rfl (fun pre x post Gi ex p S1 rb => ?_) fun Gi p => by rw [p]; exact hd
  subst p
  obtain ⟨G2, ts, tg, bd⟩ := hs pre x post ex S1 rb
  refine ⟨G2, ts, tg, ?_⟩
  have e : ∀ Gi, (Gi = γ ((pre ++ [x]).foldl step s0)) = (Gi = γ (step (pre.foldl step s0) x)) := fun Gi => by rw [List.foldl_append]; rfl
  have e2 : (fun Gi => Gi = γ ((pre ++ [x]).foldl step s0)) = (fun Gi => Gi = γ (step (pre.foldl step s0) x)) := funext e
  show At K B S1 (tb { E with nx := Mid K B S1 (fun Gi => Gi = γ ((pre ++ [x]).foldl step s0)), ct := Mid K B S1 (fun Gi => Gi = γ ((pre ++ [x]).foldl step s0)), bk := u E }) G2
  rw [e2]
  exact bd
end
section
variable {tt : TT} {tb u : TS} {E : Ends}
theorem q_while (I : Nat → List Sl → Prop) (m0 : Nat) (h0 : I m0 G) (hs : ∀ m Gi, I m Gi → ∀ S1, Reb B S0 S1 → ∃ b, EvT K tt Gi b Gi ∧
      (b = true → At K B S1 (tb { E with nx := Mid K B S1 (fun G' => ∃ m', m' < m ∧ I m' G'), ct := Mid K B S1 (fun G' => ∃ m', m' < m ∧ I m' G'), bk := u E }) Gi) ∧ (b = false → At K B S1 (u E) Gi)) :
    At K B S0 (tSeq (tWhile tt tb) u E) G := fun S σ H F kn => by
  refine ⟨fun m σ H => ∃ S F Gi, Kn K B S0 S σ H F Gi ∧ I m Gi, ⟨m0, S, F, G, kn, h0⟩, ?_⟩
  rintro m σ' H' ⟨S1, F1, Gi, k1, p⟩
  obtain ⟨b, ht, h1, h2⟩ := hs m Gi p S0 Reb.refl
  refine ht B S0 S1 σ' H' F1 k1 _ fun S2 H2 e2 k2 => ?_
  cases b with
  | true =>
    refine ⟨Mid K B S0 (fun G' => ∃ m', m' < m ∧ I m' G'), ?_, h1 rfl S2 σ' H2 F1 k2⟩
    rintro σ3 H3 ⟨S3, F3, G3, k3, m', hm, p3⟩
    exact ⟨m', hm, S3, F3, G3, k3, p3⟩
  | false => exact h2 rfl S2 σ' H2 F1 k2
end
def Sl.isOw : Sl → Bool
  | @Sl.ow _ _ _ => true
  | _ => false
theorem wipeG_get (G : List Sl) : ∀ (vs : List Nat) (k : Nat), k ∉ vs → (wipeG G vs)[k]? = G[k]?
  | [], _, _ => rfl
  | v :: vs, k, h => by
    unfold wipeG
    rw [List.getElem?_set_ne fun e => h (by rw [e]; exact List.mem_cons_self)]
    exact wipeG_get G vs k fun q => h (List.mem_cons_of_mem _ q)
theorem wipe_get' {σ : St} {vs : List Nat} {k : Nat} (h : k ∉ vs) : (L2.wipe σ vs)[k]? = σ[k]? := by
  rw [wipe_get, if_neg fun q => h q.1]
section
variable {α β τ : Type} [Py α] [Py β] {G1 : List Sl} {wi : TI} {g : TG} {tt : TT} {te : TE} {vs : List Nat} {xs : List α}
theorem Kn.outer {B1 : Hp} {G2 Gn : List Sl} {σ2 : St} (k : Kn K B S0 S σ H F G) (e : Same S S') (k2 : Kn K B1 S0 S' σ2 H' F G2) (hb : Same B B1) (hσ : ∀ j : Nat, j ∉ vs → σ2[j]? = σ[j]?)
    (hG : ∀ j s, Gn[j]? = some s → (j ∉ vs ∧ G2[j]? = some s) ∨ (s.isOw = false ∧ G[j]? = some s)) (hl : Gn.length = G.length) : Kn K B S0 S' σ H' F Gn := by
  refine ⟨k2.s0, k2.sub, hb.trans k2.keep, fun p o q => k2.clean p o (hb p o q), fun i p hp => ?_, k2.dj, hl.trans k.len, fun j s hj => ?_⟩
  · obtain ⟨h1, h2, h3⟩ := k2.off i p hp
    exact ⟨h1, hb.free h2, h3⟩
  · rcases hG j s hj with ⟨hv, h2⟩ | ⟨ho, h1⟩
    · have z := k2.sl j s h2
      rw [hσ j hv] at z
      exact z
    · have z := k.sl j s h1
      cases s with
      | no => exact True.intro
      | im x =>
        obtain ⟨v, h1, h2⟩ := z
        exact ⟨v, h1, Py.mono e h2⟩
      | ow x => cases ho
theorem el_lcX (γ : τ → List Sl) (s0 : τ) (step : τ → α → τ) (f : τ → α → Bool) (e : τ → α → β) (hi : ItG K wi G xs (γ s0)) (hl : xs.length ≤ 1000000)
    (hs : ∀ pre x post, pre ++ x :: post = xs → ∀ s, s = pre.foldl step s0 → ∃ G2 ts, TgG K g x (wipeG (γ s) vs) G2 ts ∧ (∀ t ∈ ts, t ∈ vs) ∧ ∃ G3 G4, EvT K tt G2 (f s x) G3 ∧ (f s x = true → EvX K te G3 (e s x) G4) ∧ (f s x = false → G4 = G3) ∧
      (∀ j sl, (γ (step s x))[j]? = some sl → (j ∉ vs ∧ G4[j]? = some sl) ∨ (sl.isOw = false ∧ (γ s)[j]? = some sl)) ∧ (γ (step s x)).length = (γ s).length) :
    EvL K (tLc wi g tt te vs) G ((xs.foldl (fun (a : List β × τ) x => (if f a.2 x = true then a.1 ++ [e a.2 x] else a.1, step a.2 x)) ([], s0)).1) (γ (xs.foldl step s0)) := fun B S0 S σ H F kn Q q =>
  hi B S0 S σ H F kn _ fun J S1 H1 e1 k1 wk D hD => by
    obtain ⟨a1, a2, a3⟩ := k1.free hD
    have hsnd : ∀ (l : List α) (a : List β) (s : τ), (l.foldl (fun (a : List β × τ) x => (if f a.2 x = true then a.1 ++ [e a.2 x] else a.1, step a.2 x)) (a, s)).2 = l.foldl step s := by
      intro l
      induction l with
      | nil => intro a s; rfl
      | cons x l ih => intro a s; rw [List.foldl_cons, List.foldl_cons]; exact ih _ _
    refine ⟨fun i m H => ∃ pre post S acc, pre ++ post = xs ∧ pre.length = i ∧ post.length = m ∧ Kn K B S0 S σ H F (γ (pre.foldl step s0)) ∧ Same S1 S ∧ S D = none ∧ H D = some (.lst acc) ∧ acc.length ≤ pre.length ∧ RepL K S acc ((pre.foldl (fun (a : List β × τ) x => (if f a.2 x = true then a.1 ++ [e a.2 x] else a.1, step a.2 x)) ([], s0)).1),
      ⟨xs.length, [], xs, S1, [], rfl, rfl, rfl, k1.raw hD, Same.refl _, a1, upd_same, Nat.le_refl _, True.intro⟩, ?_⟩
    rintro i m H' ⟨pre, post, S2, acc, ex, rfl, rfl, k2, s2, d2, hd2, hacc, r2⟩
    cases post with
    | nil =>
      refine .inl ⟨(wk S2 H' pre.length s2 k2.sub).2 (by rw [← ex, List.append_nil]; exact Nat.le_refl _), ?_⟩
      rw [List.append_nil] at ex
      subst ex
      exact q D acc S2 H' (e1.trans s2) k2 d2 a2 a3 hd2 r2
    | cons x post =>
      have hx : xs[pre.length]? = some x := by
        rw [← ex, List.getElem?_append_right (Nat.le_refl _), Nat.sub_self]
        rfl
      obtain ⟨go, yl⟩ := (wk S2 H' pre.length s2 k2.sub).1 x hx
      have hlen : pre.length < 1000000 := by
        have := congrArg List.length ex
        rw [List.length_append, List.length_cons] at this
        omega
      refine .inr ⟨go, fun H => ∃ S acc, Kn K B S0 S σ H F (γ ((pre ++ [x]).foldl step s0)) ∧ Same S1 S ∧ S D = none ∧ H D = some (.lst acc) ∧ acc.length ≤ (pre ++ [x]).length ∧ RepL K S acc (((pre ++ [x]).foldl (fun (a : List β × τ) x => (if f a.2 x = true then a.1 ++ [e a.2 x] else a.1, step a.2 x)) ([], s0)).1), ?_, ?_⟩
      · rintro H3 ⟨S3, acc3, k3, s3, d3, hd3, ha3, r3⟩
        exact ⟨post.length, by rw [List.length_cons]; omega, pre ++ [x], post, S3, acc3, by rw [← ex, List.append_assoc]; rfl, by rw [List.length_append]; rfl, rfl, k3, s3, d3, hd3, ha3, r3⟩
      · intro v H3 y
        obtain ⟨S3, gr, r⟩ := yl v H3 y
        obtain ⟨G2, ts, tg, hts, G3, G4, ht, he, hn, hG, hlG⟩ := hs pre x post ex _ rfl
        have k3 := k2.grow gr
        have hd3 := gr.h D _ hd2
        have d3 : S3 D = none := (gr.cl D _ hd2).trans d2
        have kp := (k3.wipe vs).pin hd3 d3 a3
        have ef : (pre ++ [x]).foldl step s0 = step (pre.foldl step s0) x := by rw [List.foldl_append]; rfl
        have ea : ((pre ++ [x]).foldl (fun (a : List β × τ) x => (if f a.2 x = true then a.1 ++ [e a.2 x] else a.1, step a.2 x)) ([], s0)).1 =
            if f (pre.foldl step s0) x = true then (pre.foldl (fun (a : List β × τ) x => (if f a.2 x = true then a.1 ++ [e a.2 x] else a.1, step a.2 x)) ([], s0)).1 ++ [e (pre.foldl step s0) x] else (pre.foldl (fun (a : List β × τ) x => (if f a.2 x = true then a.1 ++ [e a.2 x] else a.1, step a.2 x)) ([], s0)).1 := by
          rw [List.foldl_append, List.foldl_cons, List.foldl_nil, hsnd]
        rw [ef, ea]
        refine tg.2 (upd B D (.lst acc)) S0 S3 _ H3 F v kp r _ fun σ4 k4 o4 w4 => ⟨?_, ?_⟩
        · rw [w4 vs hts]
          apply List.ext_getElem?
          intro j
          rw [wipe_get, wipe_get, wipe_length]
          by_cases c : j ∈ vs ∧ j < σ.length
          · rw [if_pos c, if_pos c]
          · rw [if_neg c, if_neg c]
        · have hσ : ∀ j : Nat, j ∉ vs → σ4[j]? = σ[j]? := fun j hj => (o4 j fun q => hj (hts j q)).trans (wipe_get' hj)
          refine ht (upd B D (.lst acc)) S0 S3 σ4 H3 F k4 _ fun S5 H5 e5 k5 => ?_
          cases hf : f (pre.foldl step s0) x with
          | false =>
            have e4 := hn hf
            subst e4
            simp only [Bool.false_eq_true, if_false]
            have hd5 : H5 D = some (.lst acc) := k5.keep _ _ upd_same
            have d5 : S5 D = none := (k5.clean D _ upd_same).trans (k3.s0.free d3)
            exact ⟨S5, acc, Kn.outer k3 e5 k5 (same_new a2) hσ hG hlG, (s2.trans gr.s).trans e5, d5, hd5, by rw [List.length_append]; omega, r2.mono (gr.s.trans e5)⟩
          | true =>
            simp only [if_true]
            refine he hf (upd B D (.lst acc)) S0 S5 σ4 H5 F k5 _ fun v6 S6 H6 e6 k6 r6 => ?_
            have hd6 : H6 D = some (.lst acc) := k6.keep _ _ upd_same
            have d6 : S6 D = none := (k6.clean D _ upd_same).trans (k3.s0.free d3)
            refine ⟨acc, hd6, Nat.lt_of_le_of_lt hacc (Nat.lt_trans hlen (by decide)), S6, acc ++ [v6], (Kn.outer k3 (e5.trans e6) k6 (same_new a2) hσ hG hlG).poke d6 a2 a3, (s2.trans gr.s).trans (e5.trans e6), d6, upd_same, ?_, ?_⟩
            · rw [List.length_append, List.length_append]
              simp only [List.length_singleton]
              omega
            · exact (r2.mono (gr.s.trans (e5.trans e6))).snoc r6
theorem foldl_fm (f : α → Bool) (e : α → β) : ∀ (l : List α) (a : List β), (l.foldl (fun (a : List β × Unit) x => (if f x = true then a.1 ++ [e x] else a.1, ())) (a, ())).1 = a ++ (l.filter f).map e
  | [], a => by simp
  | x :: l, a => by
    rw [List.foldl_cons, foldl_fm f e l, List.filter_cons]
    cases f x with
    | true => simp
    | false => simp
theorem el_lcF (f : α → Bool) (e : α → β) (hi : ItG K wi G xs G1) (hl : xs.length ≤ 1000000) (hw : (vs.all fun j => !((G1[j]?.map Sl.isOw).getD false)) = true)
    (hs : ∀ x, x ∈ xs → ∃ G2 ts, TgG K g x (wipeG G1 vs) G2 ts ∧ (∀ t ∈ ts, t ∈ vs) ∧ EvT K tt G2 (f x) G2 ∧ (f x = true → EvX K te G2 (e x) G2)) :
    EvL K (tLc wi g tt te vs) G ((xs.filter f).map e) G1 := by
  have h := el_lcX (K := K) (wi := wi) (g := g) (tt := tt) (te := te) (vs := vs) (G := G) (fun _ : Unit => G1) () (fun _ _ => ()) (fun _ => f) (fun _ => e) hi hl (fun pre x post ex s _ => by
    obtain ⟨G2, ts, tg, hts, ht, he⟩ := hs x (by rw [← ex]; exact List.mem_append_right _ List.mem_cons_self)
    refine ⟨G2, ts, tg, hts, G2, G2, ht, he, fun _ => rfl, fun j sl hj => ?_, rfl⟩
    by_cases hv : j ∈ vs
    · have := List.all_eq_true.mp hw j hv
      rw [hj] at this
      exact .inr ⟨by simpa using this, hj⟩
    · refine .inl ⟨hv, ?_⟩
      rw [tg.1 j fun q => hv (hts j q), wipeG_get _ _ _ hv]
      exact hj)
  have e1 := foldl_fm f e xs []
  rw [List.nil_append] at e1
  rw [e1] at h
  exact h
theorem el_lcM (e : α → β) (hi : ItG K wi G xs G1) (hl : xs.length ≤ 1000000) (hw : (vs.all fun j => !((G1[j]?.map Sl.isOw).getD false)) = true)
    (hs : ∀ x, x ∈ xs → ∃ G2 ts, TgG K g x (wipeG G1 vs) G2 ts ∧ (∀ t ∈ ts, t ∈ vs) ∧ EvX K te G2 (e x) G2) : EvL K (tLc wi g tYes te vs) G (xs.map e) G1 := by
  have h := el_lcF (K := K) (wi := wi) (g := g) (tt := tYes) (te := te) (vs := vs) (G := G) (fun _ => true) e hi hl hw fun x hx => by
    obtain ⟨G2, ts, a, b, c⟩ := hs x hx
    exact ⟨G2, ts, a, b, et_yes, fun _ => c⟩
  have ef : xs.filter (fun _ => true) = xs := List.filter_eq_self.mpr fun _ _ => rfl
  rw [ef] at h
  exact h
end
end
end GL
namespace GL
open PySem PySem.Spec PyProof.Rows L2
class Sls (α : Type) extends PyA α where
  sls : α → List Sl
  ok : ∀ {K : Fg} {S H : Hp} {vs : List V} {x : α}, toPyA.rep K S vs x → (sls x).length = vs.length ∧ ∀ (i : Nat) (s : Sl), (sls x)[i]? = some s → SlOk K S H (vs.map some)[i]? [] s
instance : Sls Unit := ⟨fun _ => [], fun h => ⟨by rw [show _ = [] from h]; rfl, fun i s e => by simp at e⟩⟩
instance {α β : Type} [Py α] [Sls β] : Sls (α × β) := ⟨fun x => .im x.1 :: Sls.sls x.2, fun {K S H vs x} h => by
  obtain ⟨v, ws, rfl, h1, h2⟩ := h
  obtain ⟨l, q⟩ := Sls.ok (H := H) h2
  refine ⟨by rw [List.length_cons, List.length_cons, l], fun i s e => ?_⟩
  cases i with
  | zero =>
    simp only [List.getElem?_cons_zero, Option.some.injEq] at e
    subst e
    exact ⟨v, rfl, h1⟩
  | succ i =>
    have := q i s (by simpa using e)
    simpa using this⟩
structure Cal (P : Program) (w : World) (K : Fg) (mg : Str → Option Value) (base : Heap) (k : Nat) (x : Str) (ps : List Str) (sp : Sp) : Prop where
  ex : ∃ (f : Addr) (fd : FuncData), mg x = some (.ref f) ∧ FnOk P w K mg base CX0 k f fd ps sp ∧ PySem.W.keepIn K (.ref f) = true ∧ Binds K fd ps []
structure Def (K : Fg) (mg : Str → Option Value) (x : Str) (st : Stmt) (ps : List Str) : Prop where
  ex : ∃ (f : Addr) (fd : FuncData), mg x = some (.ref f) ∧ Fun K x x st f fd ∧ Binds K fd ps []
theorem Cal.mono {P : Program} {w : World} {K : Fg} {mg : Str → Option Value} {base : Heap} {j k : Nat} {x : Str} {ps : List Str} {sp : Sp} (c : Cal P w K mg base j x ps sp) (h : j ≤ k) : Cal P w K mg base k x ps sp := by
  obtain ⟨f, fd, a, b, c, d⟩ := c.ex
  exact ⟨f, fd, a, b.mono h, c, d⟩
theorem pe_cal {X : Cx} {j k : Nat} {x : Str} {ps : List Str} {sp : Sp} {e : Expr} {es : List Expr} {t : TA} {p pos : Pos} (c : Cal X.prog X.w X.K X.mg X.base k x ps sp) (hr : Room j X.A) (hk : k ≤ j) (hg : Gl X x) (ha : PA X (e :: es) t)
    (hd : (x == ("__debug__" : Str)) = false := by decide) (hs : starEach (e :: es) X.env = (false, eval e X.env) :: starEach es X.env := by rfl) (hpl : (backTo pos (starEach es X.env)).any (·.1) = false := by rfl) :
    PE X (.Call (.Name x p) (e :: es) [] pos) (tCall sp [] E0 t) := by
  obtain ⟨f, fd, a, b, c, d⟩ := c.ex
  exact pe_call b (hr.mono hk) hg a c d .nil pass0 ha hd hs hpl
section
variable {P : Program} {w : World} {K : Fg} {mg : Str → Option Value} {base : Heap} {α β : Type} [Sls α] [Py β]
theorem start_kn {H S : Hp} {vs : List V} {a : α} {N : List Str} (e : Same S H) (r : PyA.rep K S vs a) : Kn K H S S (L2.start N vs) H (fun _ => []) (Sls.sls a ++ List.replicate (N.length - PyA.n α) .no) := by
  obtain ⟨l, q⟩ := Sls.ok (H := H) r
  have hn := PyA.len r
  refine ⟨Same.refl _, e, Same.refl _, fun _ _ _ => rfl, (fun i p hp => nomatch hp), (fun i j p hp => nomatch hp), ?_, fun i s hi => ?_⟩
  · unfold L2.start
    rw [List.length_append, List.length_append, List.length_map, List.length_replicate, List.length_replicate, l, hn]
  · unfold L2.start
    by_cases c : i < (Sls.sls a).length
    · rw [List.getElem?_append_left c] at hi
      rw [List.getElem?_append_left (by rw [List.length_map, ← l]; exact c)]
      exact q i s hi
    · rw [List.getElem?_append_right (by omega)] at hi
      have : s = .no := by
        have := List.mem_of_getElem? hi
        exact List.eq_of_mem_replicate this
      subst this
      exact True.intro
theorem def_spF {x : Str} {st : Stmt} {N ps : List Str} {k : Nat} {f : α → β} {pre : α → Prop} (D : Def K mg x st ps) (S : FnScope N ps (defScope st)) (hn : PyA.n α = ps.length)
    (h : ∀ (fa : Addr) (cdv : Value) (A : Around) (outer : List Env) (s : Shared) (H : Hp) (E : XK), Room k (A.deeper (envOfC x (defScope st) s.heap.objs.size fa cdv)) →
      ∃ t, PSs (cxOf CX0 P w K mg base N x (defScope st) fa cdv A outer s H E).nox (defBody st) t ∧
        ∀ (a : α), pre a → ∀ (B S0 : Hp) (Q : VK), (∀ G' y, y = f a → RT K B S0 Q y G') → At K B S0 (t { nx := fun _ H' => Q .non H', rt := Q }) (Sls.sls a ++ List.replicate (N.length - PyA.n α) .no)) :
    Cal P w K mg base (k + 1) x ps (spF K f pre) := by
  obtain ⟨fa, fd, m, F, b⟩ := D.ex
  refine ⟨fa, fd, m, F.ok S (fun vs H Q E ⟨S, a, _, r, _⟩ => (PyA.len r).trans hn) fun cdv A outer s H vs Q E hr ⟨S', a, e, r, hp, q⟩ => ?_, F.kp, b⟩
  obtain ⟨t, h1, h2⟩ := h fa cdv A outer s H E hr
  refine ⟨t, h1, h2 a hp H S' Q (fun G' y ey S1 σ1 H1 F1 v k1 r1 => ?_) S' _ H _ (start_kn e r)⟩
  subst ey
  exact q v S1 H1 ⟨k1.s0, k1.sub, k1.keep, k1.clean⟩ r1
end
theorem Kn.relD {α : Type} [Py α] {K : Fg} {B S0 S : Hp} {σ : L2.St} {H : Hp} {F : Nat → List Addr} {G : List Sl} {x : Dct α} {i : Nat} (k : Kn K B S0 S σ H F G) (h : G[i]? = some (.ow x)) : ∃ S', Same S S' ∧ Kn K B S0 S' σ H (upF F i []) (G.set i (.im x)) := by
  obtain ⟨v, hv, p, vs, rfl, hp, h1, h2⟩ := k.ow h
  obtain ⟨hs, hb, _⟩ := k.off i p (by rw [hp]; exact List.mem_singleton.mpr rfl)
  have k1 : Kn K B S0 S σ H (upF F i []) (G.set i .no) := by
    refine ⟨k.s0, k.sub, k.keep, k.clean, fun j q hq => ?_, fun a b q ha hb' => ?_, by rw [List.length_set]; exact k.len, fun j s e => ?_⟩
    · by_cases e : j = i
      · rw [e, upF_self] at hq
        cases hq
      · rw [upF_ne e] at hq
        exact k.off j q hq
    · by_cases ea : a = i
      · rw [ea, upF_self] at ha
        cases ha
      · by_cases eb : b = i
        · rw [eb, upF_self] at hb'
          cases hb'
        · rw [upF_ne ea] at ha
          rw [upF_ne eb] at hb'
          exact k.dj a b q ha hb'
    · rcases set_get e with ⟨rfl, rfl⟩ | ⟨ne, e⟩
      · exact True.intro
      · rw [upF_ne ne]
        exact k.sl j s e
  have hf : ∀ j, p ∉ upF F i [] j := fun j hj => by
    by_cases e : j = i
    · rw [e, upF_self] at hj
      cases hj
    · rw [upF_ne e] at hj
      exact e (k.dj j i p hj (by rw [hp]; exact List.mem_singleton.mpr rfl))
  have k2 := k1.settle h1 hs hb hf
  refine ⟨upd S p (.dK vs), same_new hs, ?_⟩
  have hl : i < G.length := (List.getElem?_eq_some_iff.mp h).1
  have k3 := k2.set (i := i) (v := .ref p) (x := x) ⟨p, vs, rfl, upd_same, h2.mono (same_new hs)⟩ (by rw [List.getElem?_set_self hl]; rfl)
  have e1 : σ.set i (some (.ref p)) = σ := by
    apply List.ext_getElem?
    intro j
    by_cases e : i = j
    · subst e
      rw [List.getElem?_set_self (by rw [← k.len]; exact hl)]
      exact hv.symm
    · rw [List.getElem?_set_ne e]
  rw [e1, List.set_set] at k3
  exact k3
theorem at_relD {α : Type} [Py α] {K : Fg} {B S0 : Hp} {G : List Sl} {x : Dct α} {i : Nat} {P : L2.St → Hp → Prop} (h : G[i]? = some (.ow x)) (q : At K B S0 P (G.set i (.im x))) : At K B S0 P G := fun S σ H F k => by
  obtain ⟨S', _, k'⟩ := k.relD h
  exact q S' σ H _ k'
end GL
namespace GL
open PySem PySem.Spec PyProof.Rows L2
inductive Fl (τ ρ : Type) where
  | nx (s : τ)
  | bk (s : τ)
  | rt (r : ρ)
def forL {α τ ρ : Type} (body : τ → α → Fl τ ρ) (k : τ → ρ) : List α → τ → ρ
  | [], s => k s
  | x :: xs, s => match body s x with
    | .nx s' => forL body k xs s'
    | .bk s' => k s'
    | .rt r => r
def whl {τ ρ : Type} (c : τ → Bool) (body : τ → Fl τ ρ) (k : τ → ρ) : Nat → τ → ρ
  | 0, s => k s
  | n + 1, s => if c s = true then (match body s with
    | .nx s' => whl c body k n s'
    | .bk s' => k s'
    | .rt r => r) else k s
section
variable {α τ ρ : Type} {body : τ → α → Fl τ ρ} {k : τ → ρ} {x : α} {xs : List α} {s s' : τ} {r : ρ} {R : ρ}
variable {c : τ → Bool} {bodyW : τ → Fl τ ρ} {n : Nat}
theorem whl_nx (h : R = whl c bodyW k (n + 1) s) (hc : c s = true) (e : bodyW s = .nx s') : R = whl c bodyW k n s' := by
  rw [h, whl, if_pos hc, e]
theorem whl_end (h : R = whl c bodyW k n s) (hc : c s = false) : R = k s := by
  cases n with
  | zero => exact h
  | succ n => rw [h, whl, if_neg (by rw [hc]; decide)]
end
section
variable {K : Fg} {B S0 S1 S S' : Hp} {σ : L2.St} {H H' : Hp} {F : Nat → List Addr} {G G' : List Sl}
section
variable {α β γ : Type} [Py α] [Py β] [Py γ] {x : α} {y : β} {G1 G2 : List Sl} {te ta tb : TE} {t u w : TS} {E : Ends} {tt : TT} {b : Bool} {i j l : Nat} {P : L2.St → Hp → Prop}
theorem at_gen {x : α} (i : Nat) (h : G[i]? = some (.im x)) (k : ∀ y, y = x → At K B S0 P (G.set i (.im y))) : At K B S0 P G := by
  have := k x rfl
  have e : G.set i (.im x) = G := by
    apply List.ext_getElem?
    intro j
    by_cases q : i = j
    · subst q
      rw [List.getElem?_set_self (List.getElem?_eq_some_iff.mp h).1, h]
    · rw [List.getElem?_set_ne q]
  rw [e] at this
  exact this
theorem at_genO {δ : Type} [Own δ] {x : δ} (i : Nat) (h : G[i]? = some (.ow x)) (k : ∀ y, y = x → At K B S0 P (G.set i (.ow y))) : At K B S0 P G := by
  have := k x rfl
  have e : G.set i (.ow x) = G := by
    apply List.ext_getElem?
    intro j
    by_cases q : i = j
    · subst q
      rw [List.getElem?_set_self (List.getElem?_eq_some_iff.mp h).1, h]
    · rw [List.getElem?_set_ne q]
  rw [e] at this
  exact this
theorem qg_set (i : Nat) (h : EvX K te G x G1) (hi : G1[i]?.isSome = true) (k : ∀ y, y = x → At K B S0 (u E) (G1.set i (.im y))) : At K B S0 (tSeq (tAsg te (gName i)) u E) G := q_set h hi (k x rfl)
theorem qg_own {xs : List α} (i : Nat) (h : EvL K te G xs G1) (hi : G1[i]?.isSome = true) (k : ∀ y, y = xs → At K B S0 (u E) (G1.set i (.ow y))) : At K B S0 (tSeq (tAsg te (gName i)) u E) G := q_own h hi (k xs rfl)
theorem qg_pair {xy : α × β} (i j : Nat) (h : EvX K te G xy G1) (hi : G1[i]?.isSome = true) (hj : (G1.set i (.im xy.1))[j]?.isSome = true) (k : ∀ a b, a = xy.1 → b = xy.2 → At K B S0 (u E) ((G1.set i (.im a)).set j (.im b))) :
    At K B S0 (tSeq (tAsg te (gTup K 2 (gCons (gName i) (gCons (gName j) gNil)))) u E) G := q_asg h (tg_pair (tg_name hi) (tg_name hj)) (k _ _ rfl rfl)
theorem qg_t3 {xy : T3 α β γ} (i j l : Nat) (h : EvX K te G xy G1) (hi : G1[i]?.isSome = true) (hj : (G1.set i (.im xy.a))[j]?.isSome = true) (hl : ((G1.set i (.im xy.a)).set j (.im xy.b))[l]?.isSome = true)
    (k : ∀ a b c, a = xy.a → b = xy.b → c = xy.c → At K B S0 (u E) (((G1.set i (.im a)).set j (.im b)).set l (.im c))) :
    At K B S0 (tSeq (tAsg te (gTup K 3 (gCons (gName i) (gCons (gName j) (gCons (gName l) gNil))))) u E) G := q_asg h (tg_t3 (tg_name hi) (tg_name hj) (tg_name hl)) (k _ _ _ rfl rfl rfl)
theorem qg_app {xs xs' : List α} (i : Nat) (hl : G[i]? = some (.ow xs)) (h : EvX K te G x G1) (hl1 : G1[i]? = some (.ow xs')) (hz : xs'.length < sizeLine) (k : ∀ y, y = xs' ++ [x] → At K B S0 (u E) (G1.set i (.ow y))) :
    At K B S0 (tSeq (tDrop (tBM K "list" rAppend (tVar i) (tCons te tNil))) u E) G := q_app hl h hl1 hz (k _ rfl)
theorem qg_dput {d d' : Dct α} {n : Int} (i : Nat) (h : EvX K te G x G1) (hk : EvX K tb G1 n G2) (hl1 : G1[i]? = some (.ow d)) (hl : G2[i]? = some (.ow d')) (hz : d'.l.length < sizeLine) (k : ∀ y, y = d'.put n x → At K B S0 (u E) (G2.set i (.ow y))) :
    At K B S0 (tSeq (sDPut (tVar i) tb te) u E) G := q_dput h hk hl1 hl hz (k _ rfl)
theorem q_ifF (h : EvT K tt G b G1) (hb : b = false) (k : At K B S0 (u E) G1) : At K B S0 (tSeq (tIfS tt t tNext) u E) G := q_if h (fun e => by rw [hb] at e; cases e) fun _ => k
end
section
variable {α : Type} [Py α] {τ ρ : Type} {G1 : List Sl} {wi : TI} {g : TG} {tb u : TS} {tt : TT} {E : Ends} {xs : List α}
theorem qg_fold (γ : τ → List Sl) (step : τ → α → τ) (s0 : τ) (hi : ItG K wi G xs G1) (h0 : Le (γ s0) G1)
    (hs : ∀ pre x post s, pre ++ x :: post = xs → s = pre.foldl step s0 → ∀ S1, Reb B S0 S1 → ∃ G2 ts, TgG K g x (γ s) G2 ts ∧ At K B S1 (tb { E with nx := Mid K B S1 (· = γ (step s x)), ct := Mid K B S1 (· = γ (step s x)), bk := u E }) G2)
    (hd : ∀ s, s = xs.foldl step s0 → At K B S0 (u E) (γ s)) : At K B S0 (tSeq (tFor wi g tb) u E) G :=
  q_fold γ step s0 hi h0 (fun pre x post ex S1 rb => hs pre x post _ ex rfl S1 rb) (hd _ rfl)
theorem qg_inv (γ : τ → List Sl) (I : List α → τ → Prop) (s0 : τ) (hi : ItG K wi G xs G1) (h0 : Le (γ s0) G1) (hI : I [] s0)
    (hs : ∀ pre x post s, pre ++ x :: post = xs → I pre s → ∀ S1, Reb B S0 S1 → ∃ G2 ts, TgG K g x (γ s) G2 ts ∧ At K B S1 (tb { E with nx := Mid K B S1 (fun G' => ∃ s', G' = γ s' ∧ I (pre ++ [x]) s'), ct := Mid K B S1 (fun G' => ∃ s', G' = γ s' ∧ I (pre ++ [x]) s'), bk := u E }) G2)
    (hd : ∀ s, I xs s → At K B S0 (u E) (γ s)) : At K B S0 (tSeq (tFor wi g tb) u E) G := by
  have hi' : ItG K wi G xs (γ s0) := fun B S0 S σ H F k R q => hi B S0 S σ H F k R fun J S' H' e k' w => q J S' H' e (k'.le h0) w
  refine q_for (fun pre post Gi => ∃ s, Gi = γ s ∧ I pre s) hi' ⟨s0, rfl, hI⟩ (fun pre x post Gi ex ⟨s, e, p⟩ S1 rb => ?_) fun Gi ⟨s, e, p⟩ => by rw [e]; exact hd s p
  subst e
  exact hs pre x post s ex p S1 rb
def WhI (γ : τ → List Sl) (c : τ → Bool) (body : τ → Fl τ ρ) (k : τ → ρ) (R : ρ) (I : τ → Prop) (μ : τ → Nat) (m : Nat) (Gi : List Sl) : Prop := ∃ s, Gi = γ s ∧ R = whl c body k m s ∧ I s ∧ μ s ≤ m
def WhN (γ : τ → List Sl) (c : τ → Bool) (body : τ → Fl τ ρ) (k : τ → ρ) (R : ρ) (I : τ → Prop) (μ : τ → Nat) (n : Nat) (Gi : List Sl) : Prop := ∃ m', m' < n + 1 ∧ WhI γ c body k R I μ m' Gi
theorem whN {γ : τ → List Sl} {c : τ → Bool} {body : τ → Fl τ ρ} {k : τ → ρ} {R : ρ} {I : τ → Prop} {μ : τ → Nat} {n : Nat} {Gi : List Sl} (s s' : τ) (e : Gi = γ s') (h : R = whl c body k (n + 1) s) (hc : c s = true) (hb : body s = .nx s') (hI : I s') (hm : μ s ≤ n + 1) (hl : μ s' < μ s) : WhN γ c body k R I μ n Gi :=
  ⟨n, Nat.lt_succ_self n, s', e, whl_nx h hc hb, hI, by omega⟩
theorem qg_whl (γ : τ → List Sl) (c : τ → Bool) (body : τ → Fl τ ρ) (k : τ → ρ) (s0 : τ) (n : Nat) (R : ρ) (I : τ → Prop) (μ : τ → Nat) (h0 : Le (γ s0) G) (hR : R = whl c body k n s0) (hI : I s0) (hn : μ s0 ≤ n) (hz : ∀ s, I s → μ s = 0 → c s = false)
    (hc : ∀ s, I s → EvT K tt (γ s) (c s) (γ s))
    (hs : ∀ n s, I s → μ s ≤ n + 1 → c s = true → R = whl c body k (n + 1) s → ∀ S1, Reb B S0 S1 →
      At K B S1 (tb { E with nx := Mid K B S1 (WhN γ c body k R I μ n), ct := Mid K B S1 (WhN γ c body k R I μ n), bk := u E }) (γ s))
    (hd : ∀ s, R = k s → I s → c s = false → ∀ S1, Reb B S0 S1 → At K B S1 (u E) (γ s)) : At K B S0 (tSeq (tWhile tt tb) u E) G := by
  refine at_le h0 (q_while (WhI γ c body k R I μ) n ⟨s0, rfl, hR, hI, hn⟩ fun m Gi ⟨s, e, p, q, r⟩ S1 rb => ?_)
  subst e
  refine ⟨c s, hc s q, fun hb => ?_, fun hb => hd s (whl_end p hb) q hb S1 rb⟩
  cases m with
  | zero =>
    rw [hz s q (by omega)] at hb
    cases hb
  | succ m => exact hs m s q r hb p S1 rb
end
def spM {ω α β : Type} [Own ω] [PyA α] [Py β] (K : Fg) (f : ω → α → β × ω) (pre : ω → α → Prop) : Sp := fun vs H Q _ => ∃ (S : Hp) (v0 : V) (ws : List V) (ps : List Addr) (z : ω) (a : α), vs = v0 :: ws ∧ Same S H ∧ Own.own K S H v0 ps z ∧
  (∀ p ∈ ps, S p = none ∧ ∃ o, H p = some o) ∧ PyA.rep K S ws a ∧ pre z a ∧ ∀ v S' H', Same S S' → Same S' H' → (∀ p o, p ∉ ps → H p = some o → H' p = some o) → (∀ p o, H p = some o → S' p = S p) → (∀ p ∈ ps, ∃ o, H' p = some o) →
    Own.own K S' H' v0 ps (f z a).2 → Py.rep K S' v (f z a).1 → Q v H'
section
variable {ω α β : Type} [Own ω] [PyA α] [Py β] {G1 : List Sl} {f : ω → α → β × ω} {pre : ω → α → Prop} {z z' : ω} {a : α} {t : TA} {E : XK} {i : Nat}
theorem ev_callM (hi : G[i]? = some (.ow z)) (ha : EvA K t G a G1) (hi1 : G1[i]? = some (.ow z')) (hp : pre z' a) : EvX K (tCall (spM K f pre) [] E (tCons (tVar i) t)) G (f z' a).1 (G1.set i (.ow (f z' a).2)) := fun B S0 S σ H F k Q q => by
  obtain ⟨v0, h1, h2⟩ := k.ow hi
  refine ⟨v0, h1, ha B S0 S σ H F k _ fun vs S1 H1 e1 k1 r1 => ?_⟩
  show spM K f pre (v0 :: vs ++ []) H1 Q E
  rw [List.append_nil]
  obtain ⟨v1, h3, h4⟩ := k1.ow hi1
  rw [h1] at h3
  cases h3
  refine ⟨S1, v0, vs, F i, z', a, rfl, k1.sub, h4, fun p hp => ⟨(k1.off i p hp).1, (k1.off i p hp).2.2⟩, r1, hp, fun v S2 H2 s1 s2 hk hc hl ho r2 => q v S2 H2 (e1.trans s1) ?_ r2⟩
  have hH : ∀ p o, p ∉ F i → H1 p = some o → H2 p = some o := hk
  refine ⟨k1.s0.trans s1, s2, fun p o e => ?_, fun p o e => (hc p o (k1.keep p o e)).trans (k1.clean p o e), fun j p hp => ?_, k1.dj, by rw [List.length_set]; exact k1.len, fun j s e => ?_⟩
  · exact hH p o (fun m => by rw [(k1.off i p m).2.1] at e; cases e) (k1.keep p o e)
  · obtain ⟨a1, a2, o, a3⟩ := k1.off j p hp
    refine ⟨(hc p o a3).trans a1, a2, ?_⟩
    by_cases m : p ∈ F i
    · exact hl p m
    · exact ⟨o, hH p o m a3⟩
  · rcases set_get e with ⟨rfl, rfl⟩ | ⟨ne, e⟩
    · exact ⟨v0, h1, ho⟩
    · have w := k1.sl j s e
      cases s with
      | no => exact True.intro
      | im y =>
        obtain ⟨u, b1, b2⟩ := w
        exact ⟨u, b1, Py.mono s1 b2⟩
      | ow y =>
        obtain ⟨u, b1, b2⟩ := w
        refine ⟨u, b1, Own.mono s1 (fun p hp => ?_) b2⟩
        obtain ⟨_, _, o, a3⟩ := k1.off j p hp
        rw [a3]
        exact hH p o (fun m => ne (k1.dj j i p hp m)) a3
end
section
variable {P : Program} {w : World} {mg : Str → Option Value} {base : Heap} {ω α β : Type} [Own ω] [Anch ω] [Sls α] [Py β]
theorem start_knM {v0 : V} {ps : List Addr} {z : ω} {vs : List V} {a : α} {N : List Str} (e : Same S H) (ho : Own.own K S H v0 ps z) (hps : ∀ p ∈ ps, S p = none ∧ ∃ o, H p = some o) (r : PyA.rep K S vs a) :
    Kn K (fun p => if p ∈ ps then none else H p) S S (L2.start N (v0 :: vs)) H (fun i => if i = 0 then ps else []) (.ow z :: Sls.sls a ++ List.replicate (N.length - (PyA.n α + 1)) .no) := by
  obtain ⟨l, q⟩ := Sls.ok (H := H) r
  have hn := PyA.len r
  refine ⟨Same.refl _, e, fun p o hp => ?_, fun _ _ _ => rfl, fun i p hp => ?_, fun i j p hp hp' => ?_, ?_, fun i s hi => ?_⟩
  · by_cases m : p ∈ ps
    · rw [if_pos m] at hp
      cases hp
    · rw [if_neg m] at hp
      exact hp
  · by_cases c : i = 0
    · rw [if_pos c] at hp
      exact ⟨(hps p hp).1, if_pos hp, (hps p hp).2⟩
    · rw [if_neg c] at hp
      cases hp
  · by_cases c : i = 0
    · by_cases c' : j = 0
      · rw [c, c']
      · rw [if_neg c'] at hp'
        cases hp'
    · rw [if_neg c] at hp
      cases hp
  · unfold L2.start
    rw [List.length_append, List.length_append, List.length_map, List.length_replicate, List.length_replicate, List.length_cons, List.length_cons, l, hn]
  · unfold L2.start
    cases i with
    | zero =>
      simp only [List.cons_append, List.getElem?_cons_zero, Option.some.injEq] at hi
      subst hi
      exact ⟨v0, rfl, ho⟩
    | succ i =>
      simp only [List.cons_append, List.getElem?_cons_succ, List.map_cons] at hi ⊢
      by_cases c : i < (Sls.sls a).length
      · rw [List.getElem?_append_left c] at hi
        rw [List.getElem?_append_left (by rw [List.length_map, ← l]; exact c)]
        have := q i s hi
        rw [if_neg (Nat.succ_ne_zero i)]
        exact this
      · rw [List.getElem?_append_right (by omega)] at hi
        have : s = .no := by
          have := List.mem_of_getElem? hi
          exact List.eq_of_mem_replicate this
        subst this
        exact True.intro
theorem def_spM {x : Str} {st : Stmt} {N ps : List Str} {k : Nat} {f : ω → α → β × ω} {pre : ω → α → Prop} (D : Def K mg x st ps) (S : FnScope N ps (defScope st)) (hn : PyA.n α + 1 = ps.length) (hA : ∀ z a, pre z a → Anch.fp (f z a).2 = Anch.fp z)
    (h : ∀ (fa : Addr) (cdv : Value) (A : Around) (outer : List Env) (s : Shared) (H : Hp) (E : XK), Room k (A.deeper (envOfC x (defScope st) s.heap.objs.size fa cdv)) →
      ∃ t, PSs (cxOf CX0 P w K mg base N x (defScope st) fa cdv A outer s H E).nox (defBody st) t ∧
        ∀ (z : ω) (a : α), pre z a → ∀ (B S0 : Hp) (Q : VK), (∀ (G' : List Sl) y z', G'[0]? = some (.ow z') → (y, z') = f z a → RT K B S0 Q y G') → At K B S0 (t { nx := fun _ H' => Q .non H', rt := Q }) (.ow z :: Sls.sls a ++ List.replicate (N.length - (PyA.n α + 1)) .no)) :
    Cal P w K mg base (k + 1) x ps (spM K f pre) := by
  obtain ⟨fa, fd, m, Fu, b⟩ := D.ex
  refine ⟨fa, fd, m, Fu.ok S (fun vs H Q E ⟨S, v0, ws, qs, z, a, e, _, _, _, r, _⟩ => by rw [e, List.length_cons, PyA.len r]; exact hn) fun cdv A outer s H vs Q E hr ⟨S', v0, ws, qs, z, a, e, es, ho, hqs, r, hp, q⟩ => ?_, Fu.kp, b⟩
  subst e
  obtain ⟨t, h1, h2⟩ := h fa cdv A outer s H E hr
  refine ⟨t, h1, ?_⟩
  have kn := start_knM (N := N) es ho hqs r
  refine h2 z a hp _ S' Q (fun G' y z' hz ey S1 σ1 H1 F1 v k1 r1 => ?_) S' _ H _ kn
  obtain ⟨v1, _, o1⟩ := k1.ow hz
  have e1 : z' = (f z a).2 := by rw [← ey]
  have e2 : y = (f z a).1 := by rw [← ey]
  have ef : (v1, F1 0) = (v0, qs) := (Anch.at_ o1).trans (by rw [e1, hA z a hp]; exact (Anch.at_ ho).symm)
  have ev : v1 = v0 := congrArg Prod.fst ef
  have eF : F1 0 = qs := congrArg Prod.snd ef
  rw [ev, eF] at o1
  subst e1 e2
  refine q v S1 H1 k1.s0 k1.sub (fun p o m e => k1.keep p o (by rw [if_neg m]; exact e)) (fun p o e => ?_) (fun p m => ?_) o1 r1
  · by_cases m : p ∈ qs
    · rw [(k1.off 0 p (by rw [eF]; exact m)).1, (hqs p m).1]
    · exact k1.clean p o (by rw [if_neg m]; exact e)
  · exact (k1.off 0 p (by rw [eF]; exact m)).2.2
end
end
end GL
namespace GL
open PySem PySem.Spec PyProof.Rows L2
section
variable {K : Fg} {B S0 S1 S S' : Hp} {σ : L2.St} {H H' : Hp} {F : Nat → List Addr} {G G' G1 G2 G3 : List Sl} {ta tb tc te : TE} {i j : Nat} {u : TS} {E : Ends}
section
variable {α β γ : Type} [Py α] [Py β] [Py γ]
theorem mk_list {p : Addr} {vs : List V} {xs : List α} {Q : VK} (k : Kn K B S0 S σ H F G) (hp : H p = none) (r : RepL K S vs xs)
    (q : ∀ p vs S' H', Same S S' → Kn K B S0 S' σ H' F G → S' p = none → B p = none → (∀ j, p ∉ F j) → H' p = some (.lst vs) → RepL K S' vs xs → Q (.ref p) H') : Q (.ref p) (upd H p (.lst vs)) := by
  obtain ⟨a, b, c⟩ := k.free hp
  exact q p vs S _ (Same.refl _) (k.raw hp) a b c upd_same r
theorem RepL.rg {K : Fg} {S : Hp} (a b : Int) : RepL K S (rgV a b) (rng a b) := by
  unfold rgV rng
  generalize (List.range (b - a).toNat) = l
  induction l with
  | nil => exact True.intro
  | cons x l ih => exact ⟨rfl, ih⟩
theorem el_rng1 {n : Int} (h : EvX K ta G n G1) (hn : RgOk 0 n) : EvL K (tLstRg (tRg1 ta)) G (rng 0 n) G1 := fun B S0 S σ H F k Q q =>
  h B S0 S σ H F k _ fun v S1 H1 e1 k1 r1 => ⟨n, r1, hn, fun p hp => mk_list k1 hp (RepL.rg 0 n) fun p vs S2 H2 e2 k2 a b c d r => q p vs S2 H2 (e1.trans e2) k2 a b c d r⟩
def rListS (K : Fg) : List V → Hp → VK → Prop := fun xs H Q => ∃ p ys, xs = [.ref p] ∧ (SqL K H p ys ∨ SqT K H p ys) ∧ ∀ l, H l = none → Q (.ref l) (upd H l (.lst ys))
def rTupS (K : Fg) : List V → Hp → VK → Prop := fun xs H Q => ∃ p ys, xs = [.ref p] ∧ ((SqL K H p ys ∧ ∀ l, H l = none → Q (.ref l) (upd H l (.tup ys))) ∨ (SqT K H p ys ∧ Q (.ref p) H))
theorem call_listG {X : Cx} : CallR X (.type "list") (rListS X.K) := call_list_of
theorem call_tupG {X : Cx} : CallR X (.type "tuple") (rTupS X.K) := call_tuple_of
theorem el_listT {xs : Tp α} (h : EvX K ta G xs G1) : EvL K (tCB (rListS K) (tCons ta tNil)) G xs.l G1 := fun B S0 S σ H F k Q q =>
  h B S0 S σ H F k _ fun v S1 H1 e1 k1 r1 => by
    obtain ⟨p, vs, rfl, hp, hr⟩ := r1
    exact ⟨p, vs, rfl, .inr (seqT k1.sub hp), fun l hl => mk_list k1 hl hr fun p vs S2 H2 e2 k2 a b c d r => q p vs S2 H2 (e1.trans e2) k2 a b c d r⟩
theorem ev_tup {xs : List α} (h : EvC K ta G xs G1) : EvX K (tCB (rTupS K) (tCons ta tNil)) G (Tp.mk xs) G1 := fun B S0 S σ H F k Q q =>
  h B S0 S σ H F k _ fun v S1 H1 e1 k1 r1 => by
    obtain ⟨p, vs, rfl, hp, hr⟩ := r1.at k1
    exact ⟨p, vs, rfl, .inl ⟨SqL.of hp, fun l hl => q _ _ _ (e1.trans (same_new (k1.free hl).1)) (k1.new hl) ⟨l, vs, rfl, SqT.of upd_same, hr.mono (same_new (k1.free hl).1)⟩⟩⟩
def cutL {δ : Type} (xs : List δ) (lo hi : Option Int) : List δ := (xs.drop (HT.sIx xs.length 0 lo)).take (HT.sIx xs.length xs.length hi - HT.sIx xs.length 0 lo)
def EvO (K : Fg) (t : TO) (G : List Sl) (o : Option Int) : Prop := ∀ B S0 S σ H F, Kn K B S0 S σ H F G → ∀ Q : Option Int → Hp → Prop, (∀ S' H', Same S S' → Kn K B S0 S' σ H' F G → Q o H') → t σ H Q
theorem ev_any {bs : List Bool} (h : EvC K ta G bs G1) : EvX K (tCB (rAny K) (tCons ta tNil)) G (bs.any id) G1 := fun B S0 S σ H F k Q q =>
  h B S0 S σ H F k _ fun v S1 H1 e1 k1 r1 => by
    obtain ⟨p, vs, rfl, hp, hr⟩ := r1.at k1
    rw [hr.bls] at hp
    exact ⟨p, bs, rfl, SqL.of hp, q _ S1 H1 e1 k1 rfl⟩
def srt (xs : List Int) : List Int := xs.mergeSort fun a b => decide (a ≤ b)
theorem srt_perm (xs : List Int) : (srt xs).Perm xs := List.mergeSort_perm xs _
theorem srt_sorted (xs : List Int) : (srt xs).Pairwise (· ≤ ·) := by
  have h := List.pairwise_mergeSort (le := fun a b : Int => decide (a ≤ b)) (fun a b c h1 h2 => by simp only [decide_eq_true_eq] at *; omega) (fun a b => by simp only [Bool.or_eq_true, decide_eq_true_eq]; omega) xs
  exact h.imp fun q => of_decide_eq_true q
theorem srt_eq {xs ys : List Int} (p : ys.Perm xs) (s : ys.Pairwise (· ≤ ·)) : ys = srt xs :=
  (p.trans (srt_perm xs).symm).eq_of_pairwise (fun a b _ _ h1 h2 => Int.le_antisymm h1 h2) s (srt_sorted xs)
def rSortDI : List V → Hp → VK → Prop := fun xs H Q => ∃ (a : Addr) (kvs : List (Key × V)) (ks : List Int), xs = [.ref a] ∧ Rd H a (.dK kvs) ∧ kvs.map (·.1) = ks.map Sum.inl ∧ ks.length < 64 ∧
    ∀ (ys : List Int) (p : Addr), ys.Perm ks → ys.Pairwise (· ≤ ·) → H p = none → Q (.ref p) (upd H p (.lst (ys.map V.int)))
theorem call_sortDI {X : Cx} (hc : X.calm = true) : CallR X (.builtin "sorted") rSortDI := call_sortedDI hc
theorem RepD.keys : ∀ {kvs : List (Key × V)} {xs : List (Int × α)}, RepD K S kvs xs → kvs.map (·.1) = (xs.map (·.1)).map Sum.inl
  | [], [], _ => rfl
  | _ :: _, _ :: _, h => by rw [List.map_cons, List.map_cons, List.map_cons, RepD.keys h.2.2, h.1]
  | [], _ :: _, h => h.elim
  | _ :: _, [], h => h.elim
theorem el_sortedD {d : Dct α} (h : EvD K ta G d G1) (hz : d.l.length < 64) : EvL K (tCB rSortDI (tCons ta tNil)) G (srt (d.l.map (·.1))) G1 := fun B S0 S σ H F k Q q =>
  h B S0 S σ H F k _ fun v S1 H1 e1 k1 r1 => by
    obtain ⟨p, kvs, rfl, hp, hr⟩ := r1.at k1
    refine ⟨p, kvs, d.l.map (·.1), rfl, .inl hp, hr.keys, by rw [List.length_map]; exact hz, fun ns l pm so hl => ?_⟩
    rw [srt_eq pm so]
    exact mk_list k1 hl (RepL.of_ints _) fun p vs S2 H2 e2 k2 a b c d r => q p vs S2 H2 (e1.trans e2) k2 a b c d r
end
class Dt (α : Type) [Py α] where
  dat : α → PyData
  dp : ∀ {K : Fg} {S H : Hp} {v : V} {x : α}, Same S H → Py.rep K S v x → Dp K H v (dat x)
  lay : ∀ x : α, (dat x).canLay0 = true
  dep : Nat
  dle : ∀ x : α, (dat x).depth ≤ dep
  eq : ∀ x y : α, (PyData.eqv (dat x) (dat y) = true) ↔ x = y
section
variable {α β γ : Type} [Py α] [Py β] [Py γ]
instance : Dt Int := ⟨PyData.int, fun _ h => by rw [show _ = V.int _ from h]; exact .int _, fun _ => rfl, 0, fun _ => Nat.le_refl _, fun x y => by simp [PyData.eqv]⟩
instance : Dt Bool := ⟨PyData.bool, fun _ h => by rw [show _ = V.bl _ from h]; exact .bl _, fun _ => rfl, 0, fun _ => Nat.le_refl _, fun x y => by simp [PyData.eqv]⟩
theorem dpAll [Dt α] (e : Same S H) : ∀ {vs : List V} {xs : List α}, RepL K S vs xs → DpAll K H vs (xs.map Dt.dat)
  | [], [], _ => .nil
  | _ :: _, _ :: _, h => .cons (Dt.dp e h.1) (dpAll e h.2)
  | [], _ :: _, h => h.elim
  | _ :: _, [], h => h.elim
theorem layAll [Dt α] : ∀ xs : List α, PyData.canLayAll0 (xs.map Dt.dat) = true
  | [] => rfl
  | x :: xs => by rw [List.map_cons, PyData.canLayAll0, Dt.lay, layAll xs]; rfl
theorem depAll [Dt α] : ∀ xs : List α, PyData.depthAll (xs.map Dt.dat) ≤ Dt.dep α
  | [] => by rw [List.map_nil, PyData.depthAll]; exact Nat.zero_le _
  | x :: xs => by
    rw [List.map_cons, PyData.depthAll]
    have h1 := Dt.dle x
    have h2 := depAll xs
    omega
theorem eqAll [Dt α] : ∀ xs ys : List α, (PyData.eqvAll (xs.map Dt.dat) (ys.map Dt.dat) = true) ↔ xs = ys
  | [], [] => by simp [PyData.eqvAll]
  | [], _ :: _ => by simp [PyData.eqvAll]
  | _ :: _, [] => by simp [PyData.eqvAll]
  | x :: xs, y :: ys => by
    rw [List.map_cons, List.map_cons, PyData.eqvAll, Bool.and_eq_true, Dt.eq, eqAll xs ys, List.cons.injEq]
instance [Dt α] : Dt (List α) := ⟨fun xs => .list (xs.map Dt.dat), fun e ⟨p, vs, h1, h2, h3⟩ => by rw [h1]; exact .lst (SqL.of (e _ _ h2)) (dpAll e h3), fun xs => by rw [PyData.canLay0]; exact layAll xs, Dt.dep α + 1,
  fun xs => by rw [PyData.depth]; exact Nat.succ_le_succ (depAll xs), fun xs ys => by rw [PyData.eqv]; exact eqAll xs ys⟩
instance [Dt α] : Dt (Tp α) := ⟨fun xs => .tuple (xs.l.map Dt.dat), fun e ⟨p, vs, h1, h2, h3⟩ => by rw [h1]; exact .tup (seqT e h2) (dpAll e h3), fun xs => by rw [PyData.canLay0]; exact layAll xs.l, Dt.dep α + 1,
  fun xs => by rw [PyData.depth]; exact Nat.succ_le_succ (depAll xs.l), fun xs ys => by
    rw [PyData.eqv, eqAll]
    cases xs; cases ys
    simp⟩
instance [Dt α] [Dt β] : Dt (α × β) := ⟨fun x => .tuple [Dt.dat x.1, Dt.dat x.2], fun e ⟨p, a, b, h1, h2, h3, h4⟩ => by rw [h1]; exact .tup (seqT e h2) (.cons (Dt.dp e h3) (.cons (Dt.dp e h4) .nil)),
  fun x => by simp [PyData.canLay0, PyData.canLayAll0, Dt.lay], max (Dt.dep α) (Dt.dep β) + 1, fun x => by
    have h1 := Dt.dle x.1
    have h2 := Dt.dle x.2
    simp only [PyData.depth, PyData.depthAll]
    omega, fun x y => by
    simp only [PyData.eqv, PyData.eqvAll, Bool.and_eq_true, Dt.eq, and_true]
    exact ⟨fun h => Prod.ext h.1 h.2, fun h => by rw [h]; exact ⟨rfl, rfl⟩⟩⟩
instance [Dt α] [Dt β] [Dt γ] : Dt (T3 α β γ) := ⟨fun x => .tuple [Dt.dat x.a, Dt.dat x.b, Dt.dat x.c], fun e ⟨p, a, b, c, h1, h2, h3, h4, h5⟩ => by rw [h1]; exact .tup (seqT e h2) (.cons (Dt.dp e h3) (.cons (Dt.dp e h4) (.cons (Dt.dp e h5) .nil))),
  fun x => by simp [PyData.canLay0, PyData.canLayAll0, Dt.lay], max (Dt.dep α) (max (Dt.dep β) (Dt.dep γ)) + 1, fun x => by
    have h1 := Dt.dle x.a
    have h2 := Dt.dle x.b
    have h3 := Dt.dle x.c
    simp only [PyData.depth, PyData.depthAll]
    omega, fun x y => by
    simp only [PyData.eqv, PyData.eqvAll, Bool.and_eq_true, Dt.eq, and_true]
    cases x; cases y
    simp⟩
theorem shapedD [Dt α] (h : Dt.dep α ≤ 64) (x : α) : SeqAt.shaped (Dt.dat x) = true := by
  unfold SeqAt.shaped
  rw [Dt.lay, decide_eq_true (Nat.le_trans (Dt.dle x) h)]
  rfl
theorem eqvD [Dt α] [DecidableEq α] (x y : α) : PyData.eqv (Dt.dat x) (Dt.dat y) = decide (x = y) := by
  by_cases e : x = y
  · rw [decide_eq_true e]
    exact (Dt.eq x y).mpr e
  · rw [decide_eq_false e]
    exact Bool.eq_false_iff.mpr fun h => e ((Dt.eq x y).mp h)
theorem ev_neD [Dt α] [DecidableEq α] {x y : α} (ha : EvX K ta G x G1) (hb : EvX K tb G1 y G2) (h : Dt.dep α ≤ 64) : EvX K (tOp (rNeD K) ta tb) G (!decide (x = y)) G2 := fun B S0 S σ H F k Q q =>
  ha B S0 S σ H F k _ fun v S1 H1 e1 k1 r1 => hb B S0 S1 σ H1 F k1 _ fun w S2 H2 e2 k2 r2 =>
    ⟨_, _, Dt.dp k2.sub (Py.mono e2 r1), Dt.dp k2.sub r2, shapedD h x, shapedD h y, q _ S2 H2 (e1.trans e2) k2 (by rw [eqvD]; rfl)⟩
theorem dpC [Dt α] {v : V} {xs : List α} (r : Rdl K S σ G v xs) (k : Kn K B S0 S σ H F G) : Dp K H v (Dt.dat xs) := by
  obtain ⟨p, vs, rfl, hp, hr⟩ := r.at k
  exact .lst (SqL.of hp) (dpAll k.sub hr)
theorem ev_eqC [Dt α] [DecidableEq α] {x y : List α} (ha : EvC K ta G x G) (hb : EvC K tb G y G) (h : Dt.dep (List α) ≤ 64) : EvX K (tOp (rEqD K) ta tb) G (decide (x = y)) G := fun B S0 S σ H F k Q q =>
  ha B S0 S σ H F k _ fun v S1 H1 e1 k1 r1 => hb B S0 S1 σ H1 F k1 _ fun w S2 H2 e2 k2 r2 =>
    ⟨_, _, dpC (r1.mono e2) k2, dpC r2 k2, shapedD h x, shapedD h y, q _ S2 H2 (e1.trans e2) k2 (by rw [eqvD]; rfl)⟩
end
theorem ev_chain {f f' : Int → Int → Bool} {a b c : Int} (ha : EvX K ta G a G) (hb : EvX K tb G b G) (hc : EvX K tc G c G) : EvX K (tChain (rI0 fun i j => .bl (f i j)) (rI0 fun i j => .bl (f' i j)) ta tb tc) G (f a b && f' b c) G := fun B S0 S σ H F k Q q =>
  ha B S0 S σ H F k _ fun v S1 H1 e1 k1 r1 => hb B S0 S1 σ H1 F k1 _ fun w S2 H2 e2 k2 r2 => ⟨a, b, r1, r2, f a b, rfl, by
    cases hf : f a b with
    | true =>
      rw [if_pos rfl]
      exact hc B S0 S2 σ H2 F k2 _ fun x S3 H3 e3 k3 r3 => ⟨b, c, r2, r3, q _ S3 H3 ((e1.trans e2).trans e3) k3 (by rw [hf]; rfl)⟩
    | false =>
      rw [if_neg Bool.false_ne_true]
      exact q _ S2 H2 (e1.trans e2) k2 (by rw [hf]; rfl)⟩
theorem q_retL {α : Type} [Py α] {xs : List α} (h : EvL K te G xs G1) (k : ∀ S σ H F p vs, Kn K B S0 S σ H F G1 → S p = none → B p = none → (∀ j, p ∉ F j) → H p = some (.lst vs) → RepL K S vs xs → E.rt (.ref p) H) : At K B S0 (tSeq (tRet te) u E) G := fun S σ H F kn =>
  h B S0 S σ H F kn _ fun p vs S' H' e kn' hs hb hf hp r => k S' σ H' F p vs kn' hs hb hf hp r
theorem ev_ixS {xs : Scr} {n : Int} (ha : EvX K ta G xs G1) (hb : EvX K tb G1 n G2) (h : 0 ≤ n ∧ n < xs.l.length) : EvX K (tOp (rIxL K) ta tb) G (ix xs.l n) G2 := fun B S0 S σ H F k Q q =>
  ha B S0 S σ H F k _ fun v S1 H1 e1 k1 r1 => hb B S0 S1 σ H1 F k1 _ fun w S2 H2 e2 k2 r2 => by
    obtain ⟨p, rfl, hp⟩ := Py.mono e2 r1
    refine ⟨p, _, n, .int (ix xs.l n), rfl, r2, k2.sub.seq hp, atI_of h.1 ?_, q _ S2 H2 (e1.trans e2) k2 rfl⟩
    rw [List.getElem?_map, ix_at h.1 h.2]
    rfl
theorem ev_spr0 {z : Spr} (hi : G[i]? = some (.ow z)) : EvX K (tOp (rIxL K) (tVar i) (tC (.int 0))) G z.z G := fun B S0 S σ H F k Q q => by
  obtain ⟨v, h1, h2, h3, h4⟩ := k.ow hi
  exact ⟨v, h1, z.a, _, 0, .int z.z, h2, rfl, SqL.of h4, atI_nat (j := 0) rfl, q _ S H (Same.refl _) k rfl⟩
theorem q_sprset {z : Spr} {n : Int} (h : EvX K te G n G) (hi : G[i]? = some (.ow z)) (k : At K B S0 (u E) (G.set i (.ow (Spr.mk z.a n)))) : At K B S0 (tSeq (tAsg te (gSub (tVar i) (tC (.int 0)) rSetL)) u E) G := fun S σ H F kn =>
  h B S0 S σ H F kn _ fun v S1 H1 e1 k1 r1 => by
    obtain ⟨w, h1, h2, h3, h4⟩ := k1.ow hi
    refine ⟨w, h1, z.a, _, 0, 0, h2, rfl, h4, rfl, k S1 σ _ F ?_⟩
    rw [show v = .int n from r1]
    refine k1.mut h1 (fun q hq => upd_ne fun e => hq (by rw [h3, e]; exact List.mem_singleton.mpr rfl)) (fun q hq => ?_) ⟨h2, h3, upd_same⟩
    rw [h3] at hq
    cases List.mem_singleton.mp hq
    exact ⟨_, upd_same⟩
end
end GL
namespace GL
open PySem PySem.Spec PyProof.Rows L2
def spLaw (K : Fg) : Sp := fun vs H Q _ => ∃ (a : Addr) (ns : List Int), vs = [.ref a] ∧ SqL K H a (ns.map V.int) ∧ ns.length ≤ 63 ∧ ∀ H', Q (.bl true) H'
def spSpring (K : Fg) : Sp := fun vs H Q _ => ∃ (S : Hp) (a : Scr × Int × Unit), Same S H ∧ PyA.rep K S vs a ∧ (0 ≤ a.2.1 ∧ a.2.1 ≤ 1000) ∧ ∀ z p S' H', Grow S H S' H' → H p = none → S' p = none → H' p = some (.lst [.int z]) → Q (.ref p) H'
section
variable {P : Program} {w : World} {K : Fg} {mg : Str → Option Value} {base : Heap}
theorem fn_law {st : Stmt} {fa : Addr} {fd : FuncData} {N : List Str} {k : Nat} (F : Fun K "law" "law" st fa fd) (S : FnScope N ["script"] (defScope st))
    (h : ∀ (cdv : Value) (A : Around) (outer : List Env) (s : Shared) (H : Hp) (E : XK), Room k (A.deeper (envOfC "law" (defScope st) s.heap.objs.size fa cdv)) →
      ∃ t, PSs (cxOf CX0 P w K mg base N "law" (defScope st) fa cdv A outer s H E).nox (defBody st) t ∧
        ∀ (a : Scr), a.l.length ≤ 63 → ∀ (B S0 : Hp) (Q : VK), (∀ (G' : List Sl) (y : Bool), y = true → RT K B S0 Q y G') → At K B S0 (t { nx := fun _ H' => Q .non H', rt := Q }) (.im a :: List.replicate (N.length - 1) .no)) :
    FnOk P w K mg base CX0 (k + 1) fa fd ["script"] (spLaw K) := by
  refine F.ok S (fun vs H Q E ⟨a, ns, e, _⟩ => by rw [e]; rfl) fun cdv A outer s H vs Q E hr ⟨a, ns, e, hs, hl, q⟩ => ?_
  subst e
  obtain ⟨t, h1, h2⟩ := h cdv A outer s H E hr
  have kn := start_kn (K := K) (H := H) (S := H) (vs := [.ref a]) (a := ((⟨ns⟩, ()) : Scr × Unit)) (N := N) (Same.refl _) ⟨.ref a, [], rfl, ⟨a, rfl, hs⟩, rfl⟩
  refine ⟨t, h1, h2 ⟨ns⟩ hl H H Q (fun G' y ey S1 σ1 H1 F1 v k1 r1 => ?_) H _ H _ kn⟩
  rw [show v = .bl y from r1, ey]
  exact q H1
theorem def_spring {x : Str} {st : Stmt} {N ps : List Str} {k : Nat} (D : Def K mg x st ps) (S : FnScope N ps (defScope st)) (hn : 2 = ps.length)
    (h : ∀ (fa : Addr) (cdv : Value) (A : Around) (outer : List Env) (s : Shared) (H : Hp) (E : XK), Room k (A.deeper (envOfC x (defScope st) s.heap.objs.size fa cdv)) →
      ∃ t, PSs (cxOf CX0 P w K mg base N x (defScope st) fa cdv A outer s H E).nox (defBody st) t ∧
        ∀ (scr : Scr) (n : Int), 0 ≤ n → n ≤ 1000 → ∀ (B S0 : Hp) (Q : VK), (∀ (z : Int) (G' : List Sl) S σ H F p vs, Kn K B S0 S σ H F G' → S p = none → B p = none → (∀ j, p ∉ F j) → H p = some (.lst vs) → RepL K S vs [z] → Q (.ref p) H) →
          At K B S0 (t { nx := fun _ H' => Q .non H', rt := Q }) (.im scr :: .im n :: List.replicate (N.length - 2) .no)) :
    Cal P w K mg base (k + 1) x ps (spSpring K) := by
  obtain ⟨fa, fd, m, Fu, b⟩ := D.ex
  refine ⟨fa, fd, m, Fu.ok S (fun vs H Q E ⟨S, a, _, r, _⟩ => (PyA.len r).trans hn) fun cdv A outer s H vs Q E hr ⟨S', a, e, r, hp, q⟩ => ?_, Fu.kp, b⟩
  obtain ⟨t, h1, h2⟩ := h fa cdv A outer s H E hr
  obtain ⟨scr, n, u⟩ := a
  refine ⟨t, h1, h2 scr n hp.1 hp.2 H S' Q (fun z G' S1 σ1 H1 F1 p vs k1 hs hb hf hp r1 => ?_) S' _ H _ (start_kn e r)⟩
  have er : vs = [.int z] := by rw [r1.ints]; rfl
  rw [er] at hp
  exact q z p S1 H1 ⟨k1.s0, k1.sub, k1.keep, k1.clean⟩ hb hs hp
end
section
variable {K : Fg} {B S0 : Hp} {G G1 : List Sl} {t : TA} {E : XK} {u : TS} {D : Ends}
theorem q_spring (i : Nat) {scr : Scr} {n : Int} (ha : EvA K t G (scr, n, ()) G1) (hp : 0 ≤ n ∧ n ≤ 1000) (hi : G1[i]?.isSome = true) (k : ∀ s : Spr, At K B S0 (u D) (G1.set i (.ow s))) : At K B S0 (tSeq (tAsg (tCall (spSpring K) [] E t) (gName i)) u D) G := fun S σ H F kn =>
  ha B S0 S σ H F kn _ fun vs S1 H1 e1 k1 r1 => by
    show spSpring K (vs ++ []) H1 _ E
    rw [List.append_nil]
    refine ⟨S1, _, k1.sub, r1, hp, fun z p S2 H2 g hn hs h2 => ?_⟩
    obtain ⟨_, b, c⟩ := k1.free hn
    exact k ⟨p, z⟩ S2 _ H2 _ ((k1.grow g).setOwn (v := .ref p) (x := Spr.mk p z) ⟨rfl, rfl, h2⟩ hi hs b ⟨_, h2⟩ c)
end
@[irreducible] def lawCup (z : Spr) (m : Int) : Int × Spr := (z.z % m, ⟨z.a, z.z / m⟩)
theorem cup_bd (z : Spr) {m : Int} (h : 0 < m) : 0 ≤ (lawCup z m).1 ∧ (lawCup z m).1 < m := by
  unfold lawCup
  exact ⟨Int.emod_nonneg _ (by omega), Int.emod_lt_of_pos _ h⟩
theorem cup_a (z : Spr) (m : Int) : (lawCup z m).2.a = z.a := by unfold lawCup; rfl
theorem le_line {n : Nat} (h : n ≤ 1000000) : n ≤ sizeLine := Nat.le_trans h (by decide)
theorem lt_line {n : Nat} (h : n ≤ 1000000) : n < sizeLine := Nat.lt_of_le_of_lt h (by decide)
end GL
namespace GL
open PySem PySem.Spec PyProof.Rows L2
def rRepTA (K : Fg) : R2 := fun x y H Q => ∃ l k xs, x = .ref l ∧ y = .int k ∧ SqT K H l xs ∧ xs ≠ [] ∧ -1000 ≤ k ∧ k ≤ 1000 ∧ xs.length ≤ 1000 ∧ (k ≤ 0 → ∀ p, H p = none → Q (.ref p) (upd H p (.tup []))) ∧ (k = 1 → Q (.ref l) H) ∧
  (2 ≤ k → ∀ p, H p = none → Q (.ref p) (upd H p (.tup (List.replicate k.toNat xs).flatten)))
section
variable {K : Fg} {G G1 G2 : List Sl} {ta tb : TE} {α : Type} [Py α]
end
end GL
set_option maxHeartbeats 4000000
namespace L2
open PySem PySem.Spec PyProof.Rows
section
variable {P : Program} {w : World} {A : Around} {E : Value → Shared → Prop} {s : Shared}
theorem call_set_lstI {l : Addr} {items : Array Value} (ns : List Int) {Q : Value → Shared → Prop} (hh : A.handled = none) (hl : s.heap.IsList l items) (hit : IntsAre items.toList ns) (hb : ns.length + 1 < scanBound)
    (h : ∀ (h' : Heap) (tk c : Nat), SetR w h' s.heap.objs.size (fun j => decide (j ∈ ns)) c → c ≤ ns.length → (∀ b o, s.heap.get? b = some o → h'.get? b = some o) → Q (.ref s.heap.objs.size) { s with heap := h', toks := tk }) :
    wpAny (model P w) A (call (.type "set") [.ref l]) Q E s := by
  have hisz : items.size = ns.length := by
    have q := IntsAre.length hit
    rw [Array.length_toList] at q
    exact q
  obtain ⟨c, tl, hmro⟩ := F.called_set.mro
  have hmade := F.called_set.made
  have hsub := F.called_set.sub
  refine wpAny_call (codeAny_of_tree ?_)
  show wpAny _ _ (callAny (.type "set") _) _ _ _
  refine wpAny_pure ⟨Code.quiet_builtin _ (by decide +kernel), codeAny_builtin F.entry_type_call ?_⟩
  rw [Around.under_plain (weight_type_call_type "set" [.ref l] []) rfl]
  have h1 := F.called_set.notType
  have h2 := F.called_set.canCreate
  have hct := F.typeCall_set_1 (.ref l)
  repeat (any_goals (first | assumption | wp_step))
  refine codeAny_mono (code_set_led1 (.ref l) (E := E) (Q₁ := fun obj s₁ => obj = .ref s.heap.objs.size ∧ s₁ = { s with heap := s.heap.push { cls := .type "set", dict := none, data := .set #[] 0 (.fresh 0 0 (!w.params.followText "set-order")) } }) ⟨rfl, rfl⟩) fun r s₁ hr => ?_
  cases r with
  | error e => exact hr
  | ok fl =>
    cases fl with
    | ret obj =>
      obtain ⟨rfl, rfl⟩ := hr
      have hS : (s.heap.push { cls := .type "set", dict := none, data := .set #[] 0 (.fresh 0 0 (!w.params.followText "set-order")) }).get? s.heap.objs.size = some { cls := .type "set", dict := none, data := .set #[] 0 (.fresh 0 0 (!w.params.followText "set-order")) } := Heap.get?_push_size _ rfl
      have hT : Shared.TypeIs { s with heap := s.heap.push { cls := .type "set", dict := none, data := .set #[] 0 (.fresh 0 0 (!w.params.followText "set-order")) } } (.ref s.heap.objs.size) "set" := ⟨_, hS, rfl⟩
      have hli := F.called_set.init.lookup
      have hbi := F.called_set.init.bind (.ref s.heap.objs.size)
      repeat (any_goals (first | assumption | wp_step))
      refine codeAny_mono (codeAny_call_builtin (R := wants (fun r s₂ => r = .none ∧ ∃ h' tk c, s₂ = { s with heap := h', toks := tk } ∧ SetR w h' s.heap.objs.size (fun j => decide (j ∈ ns)) c ∧ c ≤ ns.length ∧
          (∀ b o, s.heap.get? b = some o → h'.get? b = some o)) E) F.called_set.init.plain F.entry_set_init (check_set_init_1 hT ?_)) fun r₂ s₂ hr₂ => ?_
      · obtain ⟨ol, hol, hcl, nl, hdl⟩ := hl
        obtain ⟨ocls, odict, odata, oslots⟩ := ol
        simp only at hcl hdl
        subst hcl; subst hdl
        have hol' : (s.heap.push { cls := .type "set", dict := none, data := .set #[] 0 (.fresh 0 0 (!w.params.followText "set-order")) }).get? l = some { cls := .type "list", dict := odict, data := .seq items nl, slots := oslots } := Heap.get?_push_of_some _ hol
        have hsls := F.sub_list_set
        have hslf := F.sub_list_frozenset
        have hne : (Value.type "list" == Value.type "dict") = false := by decide
        have hl1 : (s.heap.push { cls := .type "set", dict := none, data := .set #[] 0 (.fresh 0 0 (!w.params.followText "set-order")) }).IsList l items := ⟨_, hol', rfl, nl, rfl⟩
        unfold Builtin.«set.__init__» noKeywords Builtin.Frozenset.updateFrom
        generalize hPI : pyIter = PI
        wp_walk
        subst hPI
        refine wpAny_pyIter_list hl1 ?_
        refine wpAny_bind (wpAny_runValue ?_)
        have hlS : l < s.heap.objs.size := Heap.lt_size hol
        have hh3 : A.in1.in1.in1.handled = none := by simp [hh]
        have hneI : l ≠ (s.heap.push { cls := .type "set", dict := none, data := .set #[] 0 (.fresh 0 0 (!w.params.followText "set-order")) }).objs.size := by
          rw [Heap.size_push]; exact Nat.ne_of_lt (Nat.lt_succ_of_lt hlS)
        have hSf : s.heap.objs.size ∉ [(s.heap.push { cls := .type "set", dict := none, data := .set #[] 0 (.fresh 0 0 (!w.params.followText "set-order")) }).objs.size, l] := by
          rw [Heap.size_push]; simp only [List.mem_cons, List.mem_singleton, List.not_mem_nil, or_false, not_or]
          exact ⟨Nat.ne_of_lt (Nat.lt_succ_self _), Nat.ne_of_gt hlS⟩
        have hval : ∀ (i : Nat) (v : Value), items[i]? = some v → ∃ k t, ns[i]? = some k ∧ v = .int k t := fun i v hv => by
          have hi : i < ns.length := by rw [← hisz]; exact (Array.getElem?_eq_some_iff.mp hv).1
          obtain ⟨t, e⟩ := PyProof.Rows.IntsAre.int_at hit i v (by rw [Array.getElem?_toList]; exact hv)
          refine ⟨ns[i], t, List.getElem?_eq_getElem hi, ?_⟩
          rw [e, List.getD_eq_getElem?_getD, List.getElem?_eq_getElem hi] <;> rfl
        refine set_update_ints ((Walks.list hh3 _ l hneI items).toS) s.heap.objs.size
          hSf ns hisz hb hval (items.size - 0) 0 _ (by omega) (Nat.zero_le _)
          ⟨⟨_, Heap.get?_push_size _ rfl, rfl, rfl⟩, (hl1.push _)⟩ ?hS0 ?hR
        case hS0 =>
          exact ⟨0, Nat.le_refl 0, setR_new_at (Heap.get?_push_of_some _ hS)⟩
        case hR =>
          intro s' c' hm hc' hS'
          obtain ⟨h', g2, d', tk', os'⟩ := s'
          have eg : g2 = s.gens := hm.gens
          have ed : d' = s.drawn := hm.drawn
          have eo : os' = s.os := hm.os
          subst eg; subst ed; subst eo
          show wpAny _ _ _ _ _ _
          refine wpAny_pure ?_
          show wpAny _ _ (ret Value.none) _ _ _
          rw [hisz] at hc'
          refine wpAny_pure ⟨rfl, h', tk', c', rfl, hS', hc', fun b o e => ?_⟩
          have hb0 : b < s.heap.objs.size := Heap.lt_size e
          have hb1 : b ≠ s.heap.objs.size := Nat.ne_of_lt hb0
          have hb2 : b ≠ (s.heap.push { cls := .type "set", dict := none, data := .set #[] 0 (.fresh 0 0 (!w.params.followText "set-order")) }).objs.size := by
            rw [Heap.size_push]; exact Nat.ne_of_lt (Nat.lt_succ_of_lt hb0)
          exact hm.heap b o (by simp only [List.mem_cons, List.mem_singleton, List.not_mem_nil, or_false, not_or]; exact ⟨hb1, hb2⟩) (Heap.get?_push_of_some _ (Heap.get?_push_of_some _ e))
      · cases r₂ with
        | error e => exact hr₂
        | ok fl₂ =>
          cases fl₂ with
          | ret r =>
            obtain ⟨rfl, h', tk, c', rfl, hS', hc', hk'⟩ := hr₂
            repeat (any_goals (first | assumption | wp_step))
            exact h _ _ _ hS' hc' hk'
          | _ => exact hr₂.elim
    | _ => exact hr.elim
end
section
variable {X : Cx}
def tSortSet (K : PySem.W.Frag) (ta : TE) : TE := fun σ H Q => ta σ H fun x H1 => ∃ (l : Addr) (ns : List Int), x = V.ref l ∧ SqL K H1 l (ns.map V.int) ∧ ns.length < 64 ∧
  ∀ (ms : List Int) (p : Addr), ms.Pairwise (· < ·) → (∀ k : Int, k ∈ ms ↔ k ∈ ns) → H1 p = none → Q (.ref p) (upd H1 p (.lst (ms.map V.int)))
theorem pe_sortSet {a : Expr} {ta : TE} {p p2 q pos : Pos} (hc : X.calm = true) (hg : Gl X "sorted") (hm : X.mg "sorted" = none) (hg2 : Gl X "set") (hm2 : X.mg "set" = none) (ha : PE X a ta)
    (na : starEach [a] X.env = (false, eval a X.env) :: starEach [] X.env := by rfl) : PE X (.Call (.Name "sorted" p) [.Call (.Name "set" p2) [a] [] q] [] pos) (tSortSet X.K ta) := by
  refine ⟨fun pins s σ H Q I h => ?_⟩
  refine Call_ (ld_blt I hg hm PyProof.Rows.boot_sorted ?_)
  refine PyProof.Rows.callWith_builtin1 (PyProof.Rows.args_cons ?_ rfl) rfl rfl
  refine Call_ (ld_blt I hg2 hm2 PyProof.Rows.boot_set ?_)
  refine PyProof.Rows.callWith_type1 (PyProof.Rows.args_cons (thn (ha.run pins s σ H _ I h) fun v s1 ⟨x, H1, I1, r1, q1⟩ => PyProof.Rows.args_nil ?_) na) na rfl
  obtain ⟨l, ns, rfl, hq, h1, q1⟩ := q1
  cases r1
  obtain ⟨its, r, pl, hz⟩ := I1.list hq
  refine call_set_lstI ns (I1.ok.hd hc) pl.isList (by simpa using r.ints) (by unfold scanBound; omega) fun h' tk c R hcn hk => ?_
  refine PyProof.Rows.args_nil ?_
  have I2 : Inv X pins σ H1 { s1 with heap := h', toks := tk } := I1.kept hk
  refine sorted_set R (I2.ok.hd hc) (by omega) fun s' p out c ms k g o hp hg hi hs hm hl => ?_
  have hlen : (ms.map V.int).length ≤ sizeLine := by rw [List.length_map, hl, sizeLine_eq]; omega
  have hn : H1 p = none := I2.hok.fresh hp
  have J : Inv X pins σ (upd H1 p (.lst (ms.map V.int))) { { s1 with heap := h', toks := tk } with heap := s'.heap, gens := s'.gens, drawn := s'.drawn, toks := s'.toks } :=
    I2.call (ch := []) (Un.laid k hp hn) (I2.hok.laid k hp ⟨hlen, out.toList, c, vals_of_ints hi, hg⟩) (by rw [g]; exact I2.bare) (fun _ z => nomatch z)
  have e : s' = { { s1 with heap := h', toks := tk } with heap := s'.heap, gens := s'.gens, drawn := s'.drawn, toks := s'.toks } := by
    cases s'
    cases s1
    cases o
    rfl
  rw [e]
  exact ⟨.ref p, _, J, rfl, q1 ms p hs (fun k => by rw [hm k]; exact decide_eq_true_iff) hn⟩
end
end L2
namespace GL
open PySem PySem.Spec PyProof.Rows L2
section
variable {K : Fg} {B S0 S1 S S' : Hp} {σ : L2.St} {H H' : Hp} {F : Nat → List Addr} {G G' G1 G2 G3 : List Sl} {ta tb tc te : TE} {i j : Nat} {u : TS} {E : Ends}
def usrt (xs : List Int) : List Int := srt xs.eraseDups
theorem mem_usrt {xs : List Int} {k : Int} : k ∈ usrt xs ↔ k ∈ xs := by
  unfold usrt
  rw [(srt_perm _).mem_iff, List.mem_eraseDups]
theorem nodup_eraseDups (xs : List Int) : xs.eraseDups.Nodup := by
  generalize hn : xs.length = n
  induction n using Nat.strongRecOn generalizing xs with
  | _ n ih =>
    cases xs with
    | nil => simp
    | cons a l =>
      rw [List.eraseDups_cons]
      refine List.nodup_cons.mpr ⟨?_, ih _ ?_ _ rfl⟩
      · rw [List.mem_eraseDups, List.mem_filter]; simp
      · have := List.length_filter_le (fun b => !b == a) l
        simp only [List.length_cons] at hn
        omega
theorem pw_lt_unique : ∀ {xs ys : List Int}, xs.Pairwise (· < ·) → ys.Pairwise (· < ·) → (∀ k, k ∈ xs ↔ k ∈ ys) → xs = ys
  | [], [], _, _, _ => rfl
  | [], y :: ys, _, _, h => absurd ((h y).mpr List.mem_cons_self) (by simp)
  | x :: xs, [], _, _, h => absurd ((h x).mp List.mem_cons_self) (by simp)
  | x :: xs, y :: ys, hx, hy, h => by
    have hx' := List.pairwise_cons.mp hx
    have hy' := List.pairwise_cons.mp hy
    have e : x = y := by
      rcases List.mem_cons.mp ((h x).mp List.mem_cons_self) with e | e
      · exact e
      · rcases List.mem_cons.mp ((h y).mpr List.mem_cons_self) with e2 | e2
        · exact e2.symm
        · have := hx'.1 _ e2; have := hy'.1 _ e; omega
    subst e
    rw [pw_lt_unique hx'.2 hy'.2 fun k => ?_]
    constructor
    · intro hk
      rcases List.mem_cons.mp ((h k).mp (List.mem_cons_of_mem _ hk)) with e | e
      · have := hx'.1 _ hk; omega
      · exact e
    · intro hk
      rcases List.mem_cons.mp ((h k).mpr (List.mem_cons_of_mem _ hk)) with e | e
      · have := hy'.1 _ hk; omega
      · exact e
theorem usrt_pw (xs : List Int) : (usrt xs).Pairwise (· < ·) := by
  have h1 := srt_sorted xs.eraseDups
  have h2 : (srt xs.eraseDups).Nodup := (srt_perm _).symm.nodup (nodup_eraseDups xs)
  exact (h1.and h2).imp fun ⟨a, b⟩ => by omega
theorem usrt_eq {xs ys : List Int} (h : ys.Pairwise (· < ·)) (m : ∀ k, k ∈ ys ↔ k ∈ xs) : ys = usrt xs := pw_lt_unique h (usrt_pw xs) fun k => (m k).trans mem_usrt.symm
theorem el_sortSet {xs : List Int} (h : EvC K ta G xs G1) (hz : xs.length < 64) : EvL K (tSortSet K ta) G (usrt xs) G1 := fun B S0 S σ H F k Q q =>
  h B S0 S σ H F k _ fun v S1 H1 e1 k1 r1 => by
    obtain ⟨p, vs, h1, h2, h3⟩ := r1.at k1
    refine ⟨p, xs, h1, SqL.of (by rw [h2, h3.ints]), hz, fun ms p' hp hm hf => ?_⟩
    rw [usrt_eq hp hm]
    exact mk_list k1 hf (RepL.of_ints _) fun p vs S2 H2 e2 k2 a b c d r => q p vs S2 H2 (e1.trans e2) k2 a b c d r
end
end GL
namespace GL
open PySem PySem.Spec PyProof.Rows L2
section
variable {K : Fg} {B S0 S1 S S' : Hp} {σ : L2.St} {H H' : Hp} {F : Nat → List Addr} {G G' G1 G2 G3 : List Sl} {ta tb tc te : TE} {i j : Nat} {u : TS} {D : Ends}
class Ty (α : Type) [Py α] (n : outParam String) where
  ty : ∀ {K : Fg} {S H : Hp} {v : V} {x : α}, Same S H → Py.rep K S v x → TyX K H v (.type n)
theorem tyT {p : Addr} {vs : List V} (e : Same S H) (h : SqT K S p vs) : TyX K H (.ref p) (.type "tuple") := by
  rcases seqT e h with (h | ⟨o, h⟩) | ⟨o, its, n, h1, h2, _⟩
  · exact .base (.tup h)
  · exact .fTuple h
  · exact .kTuple h1 h2
instance : Ty Int "int" := ⟨fun _ h => by rw [show _ = V.int _ from h]; exact .base (.int _)⟩
instance : Ty Bool "bool" := ⟨fun _ h => by rw [show _ = V.bl _ from h]; exact .base (.bl _)⟩
instance : Ty Str "str" := ⟨fun _ h => by rw [show _ = V.str _ from h]; exact .base (.str _)⟩
instance {α : Type} [Py α] : Ty (List α) "list" := ⟨fun e ⟨p, vs, h1, h2, _⟩ => by rw [h1]; exact .base (.lst (e _ _ h2))⟩
instance {α : Type} [Py α] : Ty (Tp α) "tuple" := ⟨fun e ⟨p, vs, h1, h2, _⟩ => by rw [h1]; exact tyT e h2⟩
instance {α β : Type} [Py α] [Py β] : Ty (α × β) "tuple" := ⟨fun e ⟨p, a, b, h1, h2, _⟩ => by rw [h1]; exact tyT e h2⟩
instance {α β γ : Type} [Py α] [Py β] [Py γ] : Ty (T3 α β γ) "tuple" := ⟨fun e ⟨p, a, b, c, h1, h2, _⟩ => by rw [h1]; exact tyT e h2⟩
inductive Bk (vs : List Nat) : Nat → List Sl → List Sl → List Sl → Prop
  | n {i : Nat} : Bk vs i [] [] []
  | a {i : Nat} {s o : Sl} {G' G4 G : List Sl} (h : i ∉ vs) : Bk vs (i + 1) G' G4 G → Bk vs i (s :: G') (s :: G4) (o :: G)
  | b {i : Nat} {s o : Sl} {G' G4 G : List Sl} (h : s.isOw = false) : Bk vs (i + 1) G' G4 G → Bk vs i (s :: G') (o :: G4) (s :: G)
theorem Bk.get {vs : List Nat} : ∀ {i : Nat} {Gn G4 G : List Sl}, Bk vs i Gn G4 G → ∀ (j : Nat) (sl : Sl), Gn[j]? = some sl → (i + j ∉ vs ∧ G4[j]? = some sl) ∨ (sl.isOw = false ∧ G[j]? = some sl)
  | _, _, _, _, .n, j, sl, e => by simp at e
  | i, _, _, _, .a h t, 0, sl, e => by
    simp only [List.getElem?_cons_zero, Option.some.injEq] at e
    subst e
    exact .inl ⟨h, rfl⟩
  | i, _, _, _, .b h t, 0, sl, e => by
    simp only [List.getElem?_cons_zero, Option.some.injEq] at e
    subst e
    exact .inr ⟨h, rfl⟩
  | i, _, _, _, .a h t, j + 1, sl, e => by
    have := Bk.get t j sl (by simpa using e)
    rw [show i + 1 + j = i + (j + 1) by omega] at this
    simpa using this
  | i, _, _, _, .b h t, j + 1, sl, e => by
    have := Bk.get t j sl (by simpa using e)
    rw [show i + 1 + j = i + (j + 1) by omega] at this
    simpa using this
theorem Bk.len {vs : List Nat} : ∀ {i : Nat} {Gn G4 G : List Sl}, Bk vs i Gn G4 G → Gn.length = G.length
  | _, _, _, _, .n => rfl
  | _, _, _, _, .a _ t => by rw [List.length_cons, List.length_cons, t.len]
  | _, _, _, _, .b _ t => by rw [List.length_cons, List.length_cons, t.len]
def mapX {τ α β : Type} (e : τ → α → β) (step : τ → α → τ) (xs : List α) (s0 : τ) : List β × τ := xs.foldl (fun a x => (a.1 ++ [e a.2 x], step a.2 x)) ([], s0)
theorem mapX_snd {τ α β : Type} (e : τ → α → β) (step : τ → α → τ) (xs : List α) (s0 : τ) : (mapX e step xs s0).2 = xs.foldl step s0 := by
  unfold mapX
  have : ∀ (l : List α) (a : List β) (s : τ), (l.foldl (fun (a : List β × τ) x => (a.1 ++ [e a.2 x], step a.2 x)) (a, s)).2 = l.foldl step s := by
    intro l
    induction l with
    | nil => intro a s; rfl
    | cons x l ih => intro a s; exact ih _ _
  exact this xs [] s0
theorem mapX_all {τ α β : Type} {e : τ → α → β} {step : τ → α → τ} (P : β → Prop) (h : ∀ s x, P (e s x)) (xs : List α) (s0 : τ) : ∀ y ∈ (mapX e step xs s0).1, P y := by
  unfold mapX
  have : ∀ (l : List α) (a : List β) (s : τ), (∀ y ∈ a, P y) → ∀ y ∈ (l.foldl (fun (a : List β × τ) x => (a.1 ++ [e a.2 x], step a.2 x)) (a, s)).1, P y := by
    intro l
    induction l with
    | nil => intro a s ha; exact ha
    | cons x l ih =>
      intro a s ha
      refine ih _ _ fun y hy => ?_
      rcases List.mem_append.mp hy with q | q
      · exact ha y q
      · rw [List.mem_singleton.mp q]
        exact h s x
  exact this xs [] s0 (fun y hy => by simp at hy)
theorem mapX_len {τ α β : Type} (e : τ → α → β) (step : τ → α → τ) (xs : List α) (s0 : τ) : (mapX e step xs s0).1.length = xs.length := by
  unfold mapX
  have : ∀ (l : List α) (a : List β) (s : τ), (l.foldl (fun (a : List β × τ) x => (a.1 ++ [e a.2 x], step a.2 x)) (a, s)).1.length = a.length + l.length := by
    intro l
    induction l with
    | nil => intro a s; rfl
    | cons x l ih =>
      intro a s
      rw [List.foldl_cons, ih]
      simp only [List.length_append, List.length_cons, List.length_nil]
      omega
  rw [this]
  simp
theorem mapX_inv {τ α β : Type} {e : τ → α → β} {step : τ → α → τ} (P : τ → Prop) (h : ∀ s x, P s → P (step s x)) (xs : List α) (s0 : τ) (h0 : P s0) : P (mapX e step xs s0).2 := by
  rw [mapX_snd]
  induction xs generalizing s0 with
  | nil => exact h0
  | cons x xs ih => exact ih _ (h s0 x h0)
theorem el_lcE {α β τ : Type} [Py α] [Py β] {wi : TI} {g : TG} {te : TE} {vs : List Nat} {xs : List α} (γ : τ → List Sl) (s0 : τ) (step : τ → α → τ) (e : τ → α → β) (hi : ItG K wi G xs (γ s0)) (hl : xs.length ≤ 1000000)
    (hs : ∀ x s, x ∈ xs → ∃ G2 ts, TgG K g x (wipeG (γ s) vs) G2 ts ∧ (∀ t ∈ ts, t ∈ vs) ∧ ∃ G4, EvX K te G2 (e s x) G4 ∧ Bk vs 0 (γ (step s x)) G4 (γ s)) :
    EvL K (tLc wi g tYes te vs) G (mapX e step xs s0).1 (γ (mapX e step xs s0).2) := by
  have h := el_lcX (K := K) (wi := wi) (g := g) (tt := tYes) (te := te) (vs := vs) (G := G) γ s0 step (fun _ _ => true) e hi hl fun pre x post ex s hs' => by
    obtain ⟨G2, ts, tg, hts, G4, he, bk⟩ := hs x s (by rw [← ex]; exact List.mem_append_right _ List.mem_cons_self)
    refine ⟨G2, ts, tg, hts, G2, G4, et_yes, fun _ => he, (fun h => nomatch h), fun j sl hj => ?_, bk.len⟩
    have := bk.get j sl hj
    rw [Nat.zero_add] at this
    exact this
  simp only [if_true] at h
  rw [mapX_snd]
  exact h
def spR {ω α β : Type} [Own ω] [Anch ω] [PyA α] [Py β] (K : Fg) (ω' : Type := ω) (R : α → β → Prop) (pre : α → Prop) : Sp := fun vs H Q _ => ∃ (S : Hp) (v0 : V) (ws : List V) (ps : List Addr) (z : ω) (a : α), vs = v0 :: ws ∧ Same S H ∧ Own.own K S H v0 ps z ∧
  (∀ p ∈ ps, S p = none ∧ ∃ o, H p = some o) ∧ PyA.rep K S ws a ∧ pre a ∧ ∀ v S' H' (y : β) (z' : ω), R a y → Anch.fp z' = Anch.fp z → Same S S' → Same S' H' → (∀ p o, p ∉ ps → H p = some o → H' p = some o) → (∀ p o, H p = some o → S' p = S p) → (∀ p ∈ ps, ∃ o, H' p = some o) →
    Own.own K S' H' v0 ps z' → Py.rep K S' v y → Q v H'
abbrev spRS {α β : Type} [PyA α] [Py β] (K : Fg) (R : α → β → Prop) (pre : α → Prop) : Sp := spR (ω := Spr) K Spr R pre
section
variable {α β : Type} [PyA α] [Py β] {R : α → β → Prop} {pre : α → Prop} {z z1 : Spr} {a : α} {t : TA} {E : XK} {g : TG}
theorem q_rel (j : Nat) (hj : G[j]? = some (.ow z)) (ha : EvA K t G a G1) (hj1 : G1[j]? = some (.ow z1)) (hp : pre a) (k : ∀ y (z' : Spr), R a y → z'.a = z1.a → ∃ G2 ts, TgG K g y (G1.set j (.ow z')) G2 ts ∧ At K B S0 (u D) G2) :
    At K B S0 (tSeq (tAsg (tCall (spRS K R pre) [] E (tCons (tVar j) t)) g) u D) G := fun S σ H F kn => by
  obtain ⟨v0, h1, h2⟩ := kn.ow hj
  refine ⟨v0, h1, ha B S0 S σ H F kn _ fun vs S1 H1 e1 k1 r1 => ?_⟩
  show spRS K R pre (v0 :: vs ++ []) H1 _ E
  rw [List.append_nil]
  obtain ⟨v1, h3, h4⟩ := k1.ow hj1
  rw [h1] at h3
  cases h3
  refine ⟨S1, v0, vs, F j, z1, a, rfl, k1.sub, h4, fun p hp => ⟨(k1.off j p hp).1, (k1.off j p hp).2.2⟩, r1, hp, fun v S2 H2 y z' hR hfp s1 s2 hk hc hl ho r2 => ?_⟩
  have hH : ∀ p o, p ∉ F j → H1 p = some o → H2 p = some o := hk
  have k2 : Kn K B S0 S2 σ H2 F (G1.set j (.ow z')) := by
    refine ⟨k1.s0.trans s1, s2, fun p o e => ?_, fun p o e => (hc p o (k1.keep p o e)).trans (k1.clean p o e), fun i p hp => ?_, k1.dj, by rw [List.length_set]; exact k1.len, fun i s e => ?_⟩
    · exact hH p o (fun m => by rw [(k1.off j p m).2.1] at e; cases e) (k1.keep p o e)
    · obtain ⟨a1, a2, o, a3⟩ := k1.off i p hp
      refine ⟨(hc p o a3).trans a1, a2, ?_⟩
      by_cases m : p ∈ F j
      · exact hl p m
      · exact ⟨o, hH p o m a3⟩
    · rcases set_get e with ⟨rfl, rfl⟩ | ⟨ne, e⟩
      · exact ⟨v0, h1, ho⟩
      · have w := k1.sl i s e
        cases s with
        | no => exact True.intro
        | im y =>
          obtain ⟨u, b1, b2⟩ := w
          exact ⟨u, b1, Py.mono s1 b2⟩
        | ow y =>
          obtain ⟨u, b1, b2⟩ := w
          refine ⟨u, b1, Own.mono s1 (fun p hp => ?_) b2⟩
          obtain ⟨_, _, o, a3⟩ := k1.off i p hp
          rw [a3]
          exact hH p o (fun m => ne (k1.dj i j p hp m)) a3
  have ea : z'.a = z1.a := by
    have := congrArg Prod.fst hfp
    exact V.ref.inj this
  obtain ⟨G2, ts, tg, hat⟩ := k y z' hR ea
  exact tg.2 B S0 S2 σ H2 F v k2 r2 _ fun σ' k3 _ _ => hat S2 σ' H2 F k3
end
end
section
variable {P : Program} {w : World} {K : Fg} {mg : Str → Option Value} {base : Heap} {α β : Type} [Sls α] [Py β]
theorem def_spR {x : Str} {st : Stmt} {N ps : List Str} {k : Nat} {R : α → β → Prop} {pre : α → Prop} (D : Def K mg x st ps) (S : FnScope N ps (defScope st)) (hn : PyA.n α + 1 = ps.length)
    (h : ∀ (fa : Addr) (cdv : Value) (A : Around) (outer : List Env) (s : Shared) (H : Hp) (E : XK), Room k (A.deeper (envOfC x (defScope st) s.heap.objs.size fa cdv)) →
      ∃ t, PSs (cxOf CX0 P w K mg base N x (defScope st) fa cdv A outer s H E).nox (defBody st) t ∧
        ∀ (z : Spr) (a : α), pre a → ∀ (B S0 : Hp) (Q : VK), (∀ (G' : List Sl) (y : β) (z' : Spr), G'[0]? = some (.ow z') → z'.a = z.a → R a y → RT K B S0 Q y G') → At K B S0 (t { nx := fun _ H' => Q .non H', rt := Q }) (.ow z :: Sls.sls a ++ List.replicate (N.length - (PyA.n α + 1)) .no)) :
    Cal P w K mg base (k + 1) x ps (spRS K R pre) := by
  obtain ⟨fa, fd, m, Fu, b⟩ := D.ex
  refine ⟨fa, fd, m, Fu.ok S (fun vs H Q E ⟨S, v0, ws, qs, z, a, e, _, _, _, r, _⟩ => by rw [e, List.length_cons, PyA.len r]; exact hn) fun cdv A outer s H vs Q E hr ⟨S', v0, ws, qs, z, a, e, es, ho, hqs, r, hp, q⟩ => ?_, Fu.kp, b⟩
  subst e
  obtain ⟨t, h1, h2⟩ := h fa cdv A outer s H E hr
  refine ⟨t, h1, ?_⟩
  have kn := start_knM (N := N) es ho hqs r
  refine h2 z a hp _ S' Q (fun G' y z' hz ea hR S1 σ1 H1 F1 v k1 r1 => ?_) S' _ H _ kn
  obtain ⟨v1, _, o1⟩ := k1.ow hz
  have hfp : Anch.fp z' = Anch.fp z := by
    show (V.ref z'.a, [z'.a]) = (V.ref z.a, [z.a])
    rw [ea]
  have ef : (v1, F1 0) = (v0, qs) := (Anch.at_ o1).trans (by rw [hfp]; exact (Anch.at_ ho).symm)
  have ev : v1 = v0 := congrArg Prod.fst ef
  have eF : F1 0 = qs := congrArg Prod.snd ef
  rw [ev, eF] at o1
  refine q v S1 H1 y z' hR hfp k1.s0 k1.sub (fun p o m e => k1.keep p o (by rw [if_neg m]; exact e)) (fun p o e => ?_) (fun p m => ?_) o1 r1
  · by_cases m : p ∈ qs
    · rw [(k1.off 0 p (by rw [eF]; exact m)).1, (hqs p m).1]
    · exact k1.clean p o (by rw [if_neg m]; exact e)
  · exact (k1.off 0 p (by rw [eF]; exact m)).2.2
end
theorem cup_ex' {z z' : Spr} {m : Int} (e : z' = (lawCup z m).2) (h : 0 < m) : ∃ d, (lawCup z m).1 = d ∧ 0 ≤ d ∧ d < m ∧ z'.a = z.a := ⟨_, rfl, (cup_bd z h).1, (cup_bd z h).2, by rw [e]; exact cup_a z m⟩
end GL
namespace GL
open PySem PySem.Spec PyProof.Rows L2
end GL
namespace GL
open PySem PySem.Spec PyProof.Rows L2
section
variable {K : Fg} {B S0 S1 S S' : Hp} {σ : L2.St} {H H' : Hp} {F : Nat → List Addr} {G G' G1 G2 G3 : List Sl} {ta tb tc te : TE} {i j : Nat} {u : TS} {E : Ends}
theorem EvX.get {α : Type} [Py α] [Inhabited α] {x : Option α} (ha : EvX K ta G x G1) (h : x.isSome = true) : EvX K ta G (x.getD default) G1 := fun B S0 S σ H F k Q q =>
  ha B S0 S σ H F k _ fun v S1 H1 e1 k1 r1 => q v S1 H1 e1 k1 (by
    cases x with
    | none => exact absurd h Bool.false_ne_true
    | some y => exact r1)
instance : Dt Unit := ⟨fun _ => PyData.none, fun _ h => by rw [show _ = V.non from h]; exact .non, fun _ => rfl, 0, fun _ => Nat.le_refl _, fun x y => by simp [PyData.eqv]⟩
instance : Dt (Option Int) := ⟨fun x => match x with | none => PyData.none | some y => PyData.int y, fun {K S H v x} _ h => by
    cases x with
    | none => rw [show _ = V.non from h]; exact .non
    | some y => rw [show _ = V.int y from h]; exact .int _, fun x => by cases x <;> rfl, 0, fun x => by cases x <;> exact Nat.le_refl _, fun x y => by cases x <;> cases y <;> simp [PyData.eqv]⟩
def maxL : List Int → Int
  | [] => 0
  | x :: xs => xs.foldl max x
theorem le_foldl_max : ∀ (xs : List Int) (a : Int), a ≤ xs.foldl max a
  | [], a => Int.le_refl a
  | x :: xs, a => Int.le_trans (Int.le_max_left a x) (le_foldl_max xs (max a x))
theorem mem_foldl_max : ∀ (xs : List Int) (a y : Int), y ∈ xs → y ≤ xs.foldl max a
  | x :: xs, a, y, h => by
    rcases List.mem_cons.mp h with e | e
    · rw [e]; exact Int.le_trans (Int.le_max_right a x) (le_foldl_max xs (max a x))
    · exact mem_foldl_max xs (max a x) y e
theorem foldl_max_mem : ∀ (xs : List Int) (a : Int), xs.foldl max a = a ∨ xs.foldl max a ∈ xs
  | [], a => .inl rfl
  | x :: xs, a => by
    rcases foldl_max_mem xs (max a x) with e | e
    · rw [List.foldl_cons, e]
      by_cases h : a ≤ x
      · rw [Int.max_eq_right h]; exact .inr List.mem_cons_self
      · rw [Int.max_eq_left (by omega)]; exact .inl rfl
    · exact .inr (List.mem_cons_of_mem _ e)
theorem maxL_mem {xs : List Int} (h : xs ≠ []) : maxL xs ∈ xs := by
  cases xs with
  | nil => exact absurd rfl h
  | cons x xs =>
    rcases foldl_max_mem xs x with e | e
    · rw [show maxL (x :: xs) = xs.foldl max x from rfl, e]; exact List.mem_cons_self
    · exact List.mem_cons_of_mem _ e
theorem le_maxL {xs : List Int} {y : Int} (h : y ∈ xs) : y ≤ maxL xs := by
  cases xs with
  | nil => exact absurd h (by simp)
  | cons x xs =>
    rcases List.mem_cons.mp h with e | e
    · rw [e]; exact le_foldl_max xs x
    · exact mem_foldl_max xs x y e
theorem maxL_eq {xs : List Int} {m : Int} (h : m ∈ xs) (g : ∀ y ∈ xs, y ≤ m) : m = maxL xs :=
  Int.le_antisymm (le_maxL h) (g _ (maxL_mem (by intro e; rw [e] at h; simp at h)))
end
end GL
set_option maxHeartbeats 4000000
namespace L2
open PySem PySem.Spec PyProof.Rows
def le2 (a b : Int × Int) : Prop := a.1 < b.1 ∨ (a.1 = b.1 ∧ a.2 ≤ b.2)
section
variable {X : Cx}
def rSort2 (K : PySem.W.Frag) : List V → Hp → VK → Prop := fun vs H Q => ∃ (a : Addr) (xs : List V), vs = [V.ref a] ∧ SqL K H a xs ∧ (∀ x ∈ xs, ∃ m n : Int, TupI K H x [m, n]) ∧
  ∀ (ys : List V) (p : Addr), ys.Perm xs → ys.Pairwise (fun x y => ∀ m n m' n', TupI K H x [m, n] → TupI K H y [m', n'] → le2 (m, n) (m', n')) → H p = none → Q (.ref p) (upd H p (.lst ys))
theorem two_of {pins : List (Addr × Obj)} {σ : St} {H : Hp} {s : Shared} (I : Inv X pins σ H s) {t : Addr} {m n : Int} (h : SqT X.K H t [V.int m, V.int n]) :
    ∃ (o : Obj) (c : Nat) (u1 u2 : Tok), s.heap.get? t = some o ∧ o.cls = .type "tuple" ∧ o.data = .seq #[Value.int m u1, Value.int n u2] c := by
  obtain ⟨its, rv, hT, _⟩ := I.tuple h
  obtain ⟨o, ho, hc, c, hd⟩ := hT
  cases rv with
  | cons r1 rv =>
    cases rv with
    | cons r2 rv =>
      cases rv
      obtain ⟨u1, e1⟩ := r1
      obtain ⟨u2, e2⟩ := r2
      subst e1; subst e2
      exact ⟨o, c, u1, u2, ho, hc, hd⟩
theorem tupsOf_all {h : Heap} : ∀ {vs : List Value}, (∀ v ∈ vs, ∃ f, TupOf h (fun _ => false) v f) → ∃ fs, TupsOf h (fun _ => false) vs fs
  | [], _ => ⟨[], .nil⟩
  | v :: vs, q => by
    obtain ⟨f, hf⟩ := q v List.mem_cons_self
    obtain ⟨fs, hfs⟩ := tupsOf_all fun w hw => q w (List.mem_cons_of_mem _ hw)
    exact ⟨f :: fs, .cons hf hfs⟩
theorem cr_sort2 : CallR X (.builtin "sorted") (rSort2 X.K) := by
  intro pins s σ H vs us Q I r h
  obtain ⟨a, xs, rfl, hs, hx, q⟩ := h
  obtain ⟨its, rv, hl, hz⟩ := I.list hs
  rw [Vals.ref1 r]
  obtain ⟨e1, e2⟩ := bkV_refs rv fun x m => by
    obtain ⟨_, _, t, e, _⟩ := hx x m
    exact ⟨t, e⟩
  have hat : ∀ v ∈ its, ∃ t m n, v = .ref t ∧ SqT X.K H t [V.int m, V.int n] := fun v hv => by
    obtain ⟨t, rfl⟩ := e2 v hv
    have hm : V.ref t ∈ xs := by
      rw [e1]
      exact List.mem_map.mpr ⟨_, hv, rfl⟩
    obtain ⟨m, n, t', e, ht⟩ := hx _ hm
    cases e
    exact ⟨t, m, n, rfl, ht⟩
  have hkey : ∀ v ∈ its, ∀ t m n, v = .ref t → SqT X.K H t [V.int m, V.int n] → G.tupKeyC s.heap (fun _ => false) v = some [Sum.inl m, Sum.inl n] := fun v hv t m n e ht => by
    obtain ⟨o, c, u1, u2, ho, hc, hd⟩ := two_of I ht
    rw [e]
    exact G.tupKeyC_of ho hc hd rfl
  obtain ⟨fs, hfs⟩ := tupsOf_all (h := s.heap) (vs := its) fun v hv => by
    obtain ⟨t, m, n, rfl, ht⟩ := hat v hv
    obtain ⟨o, c, u1, u2, ho, hc, hd⟩ := two_of I ht
    exact ⟨.int m u1, t, o, _, c, rfl, ho, hc, hd, rfl, fun _ => ⟨m, u1, rfl⟩, fun z => absurd z Bool.false_ne_true⟩
  have hkk : ∀ v, v ∈ its → ∃ l, G.tupKeyC s.heap (fun _ => false) v = some l := fun v hv => by
    obtain ⟨t, m, n, e, ht⟩ := hat v hv
    exact ⟨_, hkey v hv t m n e ht⟩
  have hz' : its.length ≤ sizeLine := by rw [← rv.length]; exact hz
  refine G.sorted_tups (shape := fun _ => false) (fs := fs) hl.isList hfs hkk hz' fun st' a1 a2 a3 => ?_
  have hper : (arrOf st').toList.Perm (its.map fun v => (v, v)) := by
    have e := Array.perm_iff_toList_perm.mp a1
    rw [pairsOf_toList] at e
    refine e.trans (List.Perm.of_eq ?_)
    rw [List.zip_eq_zipWith, List.zipWith_self]
  have hp1 : (((arrOf st').map (·.2)).toList).Perm its := by
    rw [Array.toList_map]
    have := hper.map (·.2)
    rw [List.map_map] at this
    refine this.trans (List.Perm.of_eq ?_)
    exact (List.map_congr_left fun v _ => rfl).trans (List.map_id its)
  have hmem : ∀ p ∈ (arrOf st').toList, p.1 = p.2 ∧ p.2 ∈ its := fun p hp => by
    obtain ⟨v, hv, rfl⟩ := List.mem_map.mp (hper.mem_iff.mp hp)
    exact ⟨rfl, hv⟩
  have hsz : (arrOf st').size = (pairsOf its).size := by rw [← Array.length_toList, ← Array.length_toList]; exact (Array.perm_iff_toList_perm.mp a1).length_eq
  have hpw := keyLe_of_sorted (κ := G.tupKindC s.heap (fun _ => false)) (xs := arrOf st') (fun p hp => by
    obtain ⟨e, hv⟩ := hmem p hp
    rw [e]
    exact hkk _ hv) (by rw [hsz]; exact a2)
  obtain ⟨ep, he'⟩ := PyProof.Rows.sortedAll_at s.heap its ((arrOf st').map (·.2))
  have h3 : ∀ u ∈ ((arrOf st').map (·.2)).toList, ∃ a, u = Value.ref a := fun u hu => e2 u (hp1.mem_iff.mp hu)
  have hp : (((arrOf st').map (·.2)).toList.map bkV).Perm xs := by
    rw [e1]
    exact hp1.map bkV
  have hlen : (((arrOf st').map (·.2)).toList.map bkV).length ≤ sizeLine := by
    rw [hp.length_eq]
    exact hz
  refine ⟨.ref _, upd H (s.heap.objs.size + 1) (.lst (((arrOf st').map (·.2)).toList.map bkV)), I.laid (t' := s.toks) (fun _ _ => PyProof.Rows.sortedAll_old) (Nat.le_succ _) ⟨hlen, _, ep, bkV_vals h3, he'⟩, rfl, q _ _ hp ?_ (I.hok.fresh (Nat.le_succ _))⟩
  rw [Array.toList_map, List.map_map, List.pairwise_map]
  refine List.Pairwise.imp_of_mem (fun {p p'} hm hm' hle m n m' n' hn hn' => ?_) hpw
  obtain ⟨x1, x2⟩ := hmem p hm
  obtain ⟨y1, y2⟩ := hmem p' hm'
  obtain ⟨t, et, ht⟩ := hn
  obtain ⟨t', et', ht'⟩ := hn'
  have eu := bkV_ref et
  have ev := bkV_ref et'
  obtain ⟨k1, k2, hk1, hk2, hk⟩ := hle
  have z1 := hkey p.2 x2 t m n eu ht
  have z2 := hkey p'.2 y2 t' m' n' ev ht'
  rw [x1] at hk1
  rw [y1] at hk2
  have f1 : k1 = [Sum.inl m, Sum.inl n] := Option.some.inj (hk1.symm.trans z1)
  have f2 : k2 = [Sum.inl m', Sum.inl n'] := Option.some.inj (hk2.symm.trans z2)
  rw [f1, f2] at hk
  have hk' : lexLt itemOrd [Sum.inl m', Sum.inl n'] [Sum.inl m, Sum.inl n] = false := hk
  rw [lex_false] at hk'
  obtain ⟨g1, g2⟩ := hk'
  have g1' := of_decide_eq_false (show decide (m' < m) = false from g1)
  rcases g2 with g2 | g2
  · exact .inl (of_decide_eq_true (show decide (m < m') = true from g2))
  · rw [lex_false] at g2
    have g2' := of_decide_eq_false (show decide (n' < n) = false from g2.1)
    show m < m' ∨ (m = m' ∧ n ≤ n')
    omega
end
end L2
namespace GL
open PySem PySem.Spec PyProof.Rows L2
section
variable {K : Fg} {B S0 S1 S S' : Hp} {σ : L2.St} {H H' : Hp} {F : Nat → List Addr} {G G' G1 G2 G3 : List Sl} {ta tb tc te : TE} {i j : Nat} {u : TS} {E : Ends}
def le2b (a b : Int × Int) : Bool := decide (a.1 < b.1) || (decide (a.1 = b.1) && decide (a.2 ≤ b.2))
theorem le2b_iff {a b : Int × Int} : le2b a b = true ↔ le2 a b := by
  unfold le2b le2
  simp only [Bool.or_eq_true, Bool.and_eq_true, decide_eq_true_eq]
@[irreducible] def srt2 (xs : List (Int × Int)) : List (Int × Int) := xs.mergeSort le2b
theorem srt2_perm (xs : List (Int × Int)) : (srt2 xs).Perm xs := by unfold srt2; exact List.mergeSort_perm xs _
theorem srt2_sorted (xs : List (Int × Int)) : (srt2 xs).Pairwise le2 := by
  unfold srt2
  have h := List.pairwise_mergeSort (le := le2b) (fun a b c h1 h2 => by rw [le2b_iff] at *; unfold le2 at *; omega) (fun a b => by rw [Bool.or_eq_true, le2b_iff, le2b_iff]; unfold le2; omega) xs
  exact h.imp fun q => le2b_iff.mp q
theorem le2_anti {a b : Int × Int} (h1 : le2 a b) (h2 : le2 b a) : a = b := by
  unfold le2 at *
  exact Prod.ext (by omega) (by omega)
theorem srt2_eq {xs ys : List (Int × Int)} (p : ys.Perm xs) (s : ys.Pairwise le2) : ys = srt2 xs :=
  (p.trans (srt2_perm xs).symm).eq_of_pairwise (fun a b _ _ h1 h2 => le2_anti h1 h2) s (srt2_sorted xs)
theorem RepL.perm {α : Type} [Py α] : ∀ {vs ws : List V}, ws.Perm vs → ∀ {xs : List α}, RepL K S vs xs → ∃ ys : List α, ys.Perm xs ∧ RepL K S ws ys := by
  intro vs ws p
  induction p with
  | nil => intro xs h; exact ⟨xs, .refl _, h⟩
  | cons v p ih =>
    intro xs h
    cases xs with
    | nil => exact h.elim
    | cons x xs =>
      obtain ⟨ys, h1, h2⟩ := ih h.2
      exact ⟨x :: ys, h1.cons x, h.1, h2⟩
  | swap v w l =>
    intro xs h
    match xs, h with
    | x :: y :: xs, h => exact ⟨y :: x :: xs, .swap x y xs, h.2.1, h.1, h.2.2⟩
  | trans p1 p2 ih1 ih2 =>
    intro xs h
    obtain ⟨ys, h1, h2⟩ := ih2 h
    obtain ⟨zs, h3, h4⟩ := ih1 h2
    exact ⟨zs, h3.trans h1, h4⟩
theorem rep2 {v : V} {x : Int × Int} (e : Same S H) (h : Py.rep K S v x) : TupI K H v [x.1, x.2] := by
  obtain ⟨p, a, b, h1, h2, h3, h4⟩ := h
  have e3 : a = .int x.1 := h3
  have e4 : b = .int x.2 := h4
  subst e3; subst e4
  exact ⟨p, h1, seqT e h2⟩
theorem pw_le2 (e : Same S H) : ∀ {vs : List V} {xs : List (Int × Int)}, RepL K S vs xs → vs.Pairwise (fun x y => ∀ m n m' n', TupI K H x [m, n] → TupI K H y [m', n'] → le2 (m, n) (m', n')) → xs.Pairwise le2
  | [], [], _, _ => List.Pairwise.nil
  | v :: vs, x :: xs, h, hp => by
    have hp' := List.pairwise_cons.mp hp
    refine List.pairwise_cons.mpr ⟨fun y hy => ?_, pw_le2 e h.2 hp'.2⟩
    obtain ⟨i, hi, rfl⟩ := List.getElem_of_mem hy
    obtain ⟨w, hw, hr⟩ := h.2.get (List.getElem?_eq_getElem hi)
    exact hp'.1 w (List.mem_of_getElem? hw) _ _ _ _ (rep2 e h.1) (rep2 e hr)
theorem all_rep2 (e : Same S H) : ∀ {vs : List V} {xs : List (Int × Int)}, RepL K S vs xs → ∀ v ∈ vs, ∃ m n : Int, TupI K H v [m, n]
  | v :: vs, x :: xs, h, w, hw => by
    rcases List.mem_cons.mp hw with q | q
    · rw [q]; exact ⟨_, _, rep2 e h.1⟩
    · exact all_rep2 e h.2 w q
theorem el_sort2 {xs : List (Int × Int)} (h : EvC K ta G xs G1) : EvL K (tCB (rSort2 K) (tCons ta tNil)) G (srt2 xs) G1 := fun B S0 S σ H F k Q q =>
  h B S0 S σ H F k _ fun v S1 H1 e1 k1 r1 => by
    obtain ⟨p, vs, rfl, hp, hr⟩ := r1.at k1
    refine ⟨p, vs, rfl, SqL.of hp, all_rep2 k1.sub hr, fun ys l pm so hl => ?_⟩
    obtain ⟨zs, h1, h2⟩ := RepL.perm pm hr
    have e : zs = srt2 xs := srt2_eq h1 (pw_le2 k1.sub h2 so)
    rw [e] at h2
    exact mk_list k1 hl h2 fun p vs S2 H2 e2 k2 a b c d r => q p vs S2 H2 (e1.trans e2) k2 a b c d r
end
end GL
namespace GL
open PySem PySem.Spec PyProof.Rows L2
section
variable {K : Fg} {B S0 S1 S S' : Hp} {σ : L2.St} {H H' : Hp} {F : Nat → List Addr} {G G' G1 G2 G3 : List Sl} {ta tb tc te : TE} {i j : Nat} {u : TS} {E : Ends}
section
variable {α : Type} [Py α]
theorem qg_ext {xs xs' ys : List α} (i : Nat) (hl : G[i]? = some (.ow xs)) (h : EvC K te G ys G1) (hl1 : G1[i]? = some (.ow xs')) (hz : xs'.length + ys.length ≤ sizeLine) (k : ∀ y, y = xs' ++ ys → At K B S0 (u E) (G1.set i (.ow y))) :
    At K B S0 (tSeq (tDrop (tBM K "list" rExtend (tVar i) (tCons te tNil))) u E) G := fun S σ H F kn => by
  obtain ⟨p, vs, h1, h2, h3, h4⟩ := own_list kn hl
  refine ⟨.ref p, h1, .inl ⟨rfl, _, SqL.of h3⟩, h B S0 S σ H F kn _ fun v S' H' e kn' r => ?_⟩
  obtain ⟨p', vs', h1', h2', h3', h4'⟩ := own_list kn' hl1
  rw [h1] at h1'
  cases h1'
  obtain ⟨q, ws, rfl, hq, hr⟩ := r.at kn'
  exact ⟨p, q, vs', ws, rfl, rfl, h3', hq, by rw [h4'.len, hr.len]; exact hz, k _ rfl S' σ _ F (own_listUpd kn' h1 h2' (h4'.app hr))⟩
end
section
variable {α β γ δ : Type} [Py α] [Py β] [Py γ] [Py δ]
def lG [Inhabited α] : Sum α β → α
  | .inl y => y
  | .inr _ => default
def rG [Inhabited β] : Sum α β → β
  | .inl _ => default
  | .inr y => y
theorem EvX.lG [Inhabited α] {x : Sum α β} (ha : EvX K ta G x G1) (h : x.isLeft = true) : EvX K ta G (GL.lG x) G1 := by
  cases x with
  | inl y => exact ha
  | inr y => exact absurd h Bool.false_ne_true
theorem EvX.rG [Inhabited β] {x : Sum α β} (ha : EvX K ta G x G1) (h : x.isRight = true) : EvX K ta G (GL.rG x) G1 := by
  cases x with
  | inl y => exact absurd h Bool.false_ne_true
  | inr y => exact ha
def sm0 : Sum (T3 α β γ) (α × δ) → α
  | .inl y => y.a
  | .inr y => y.1
def sm1 : Sum (T3 α β γ) (α × δ) → Sum β δ
  | .inl y => .inl y.b
  | .inr y => .inr y.2
def smL : Sum (T3 α β γ) (α × δ) → Sum γ δ
  | .inl y => .inl y.c
  | .inr y => .inr y.2
instance {n : String} [h : Ty α n] [Ty β n] : Ty (Sum α β) n := ⟨fun {K S H v x} e r => by
  cases x with
  | inl y => exact Ty.ty (x := y) e r
  | inr y => exact Ty.ty (x := y) e r⟩
end
end
end GL
namespace GL
open PySem PySem.Spec PyProof.Rows L2
section
variable {K : Fg} {B S0 S1 S S' : Hp} {σ : L2.St} {H H' : Hp} {F : Nat → List Addr} {G G' G1 G2 G3 : List Sl} {ta tb tc te : TE} {i j : Nat} {u : TS} {E : Ends}
variable {α β γ δ : Type} [Py α] [Py β] [Py γ] [Py δ]
class Dq (α : Type) [Py α] where
  dat : α → PyData
  ok : α → Prop
  dp : ∀ {K : Fg} {S H : Hp} {v : V} {x : α}, Same S H → Py.rep K S v x → Dp K H v (dat x)
  lay : ∀ x : α, ok x → (dat x).canLay0 = true
  dep : Nat
  dle : ∀ x : α, (dat x).depth ≤ dep
  eq : ∀ x y : α, (PyData.eqv (dat x) (dat y) = true) ↔ x = y
instance (priority := low) [Dt α] : Dq α := ⟨Dt.dat, fun _ => True, Dt.dp, fun x _ => Dt.lay x, Dt.dep α, Dt.dle, Dt.eq⟩
instance : Dq Str := ⟨PyData.str, fun x => (PyData.str x).canLay0 = true, fun _ h => by rw [show _ = V.str _ from h]; exact .str _, fun x h => h, 0, fun _ => Nat.le_refl _, fun x y => by simp [PyData.eqv]⟩
theorem dqAll [Dq α] (e : Same S H) : ∀ {vs : List V} {xs : List α}, RepL K S vs xs → DpAll K H vs (xs.map Dq.dat)
  | [], [], _ => .nil
  | _ :: _, _ :: _, h => .cons (Dq.dp e h.1) (dqAll e h.2)
  | [], _ :: _, h => h.elim
  | _ :: _, [], h => h.elim
theorem lqAll [Dq α] : ∀ xs : List α, (∀ x ∈ xs, Dq.ok x) → PyData.canLayAll0 (xs.map Dq.dat) = true
  | [], _ => rfl
  | x :: xs, h => by rw [List.map_cons, PyData.canLayAll0, Dq.lay x (h x List.mem_cons_self), lqAll xs fun y hy => h y (List.mem_cons_of_mem _ hy)]; rfl
theorem pqAll [Dq α] : ∀ xs : List α, PyData.depthAll (xs.map Dq.dat) ≤ Dq.dep α
  | [] => by rw [List.map_nil, PyData.depthAll]; exact Nat.zero_le _
  | x :: xs => by
    rw [List.map_cons, PyData.depthAll]
    have h1 := Dq.dle x
    have h2 := pqAll xs
    omega
theorem eqqAll [Dq α] : ∀ xs ys : List α, (PyData.eqvAll (xs.map Dq.dat) (ys.map Dq.dat) = true) ↔ xs = ys
  | [], [] => by simp [PyData.eqvAll]
  | [], _ :: _ => by simp [PyData.eqvAll]
  | _ :: _, [] => by simp [PyData.eqvAll]
  | x :: xs, y :: ys => by
    rw [List.map_cons, List.map_cons, PyData.eqvAll, Bool.and_eq_true, Dq.eq, eqqAll xs ys, List.cons.injEq]
instance (priority := 500) [Dq α] : Dq (List α) := ⟨fun xs => .list (xs.map Dq.dat), fun xs => ∀ x ∈ xs, Dq.ok x, fun e ⟨p, vs, h1, h2, h3⟩ => by rw [h1]; exact .lst (SqL.of (e _ _ h2)) (dqAll e h3), fun xs h => by rw [PyData.canLay0]; exact lqAll xs h, Dq.dep α + 1,
  fun xs => by rw [PyData.depth]; exact Nat.succ_le_succ (pqAll xs), fun xs ys => by rw [PyData.eqv]; exact eqqAll xs ys⟩
instance (priority := 500) [Dq α] [Dq β] : Dq (α × β) := ⟨fun x => .tuple [Dq.dat x.1, Dq.dat x.2], fun x => Dq.ok x.1 ∧ Dq.ok x.2, fun e ⟨p, a, b, h1, h2, h3, h4⟩ => by rw [h1]; exact .tup (seqT e h2) (.cons (Dq.dp e h3) (.cons (Dq.dp e h4) .nil)),
  fun x h => by simp [PyData.canLay0, PyData.canLayAll0, Dq.lay _ h.1, Dq.lay _ h.2], max (Dq.dep α) (Dq.dep β) + 1, fun x => by
    have h1 := Dq.dle x.1
    have h2 := Dq.dle x.2
    simp only [PyData.depth, PyData.depthAll]
    omega, fun x y => by
    simp only [PyData.eqv, PyData.eqvAll, Bool.and_eq_true, Dq.eq, and_true]
    exact ⟨fun h => Prod.ext h.1 h.2, fun h => by rw [h]; exact ⟨rfl, rfl⟩⟩⟩
instance (priority := 500) [Dq α] [Dq β] [Dq γ] : Dq (T3 α β γ) := ⟨fun x => .tuple [Dq.dat x.a, Dq.dat x.b, Dq.dat x.c], fun x => Dq.ok x.a ∧ Dq.ok x.b ∧ Dq.ok x.c, fun e ⟨p, a, b, c, h1, h2, h3, h4, h5⟩ => by rw [h1]; exact .tup (seqT e h2) (.cons (Dq.dp e h3) (.cons (Dq.dp e h4) (.cons (Dq.dp e h5) .nil))),
  fun x h => by simp [PyData.canLay0, PyData.canLayAll0, Dq.lay _ h.1, Dq.lay _ h.2.1, Dq.lay _ h.2.2], max (Dq.dep α) (max (Dq.dep β) (Dq.dep γ)) + 1, fun x => by
    have h1 := Dq.dle x.a
    have h2 := Dq.dle x.b
    have h3 := Dq.dle x.c
    simp only [PyData.depth, PyData.depthAll]
    omega, fun x y => by
    simp only [PyData.eqv, PyData.eqvAll, Bool.and_eq_true, Dq.eq, and_true]
    cases x; cases y
    simp⟩
end
end GL
namespace GL
open PySem PySem.Spec PyProof.Rows L2
section
variable {K : Fg} {B S0 S1 S S' : Hp} {σ : L2.St} {H H' : Hp} {F : Nat → List Addr} {G G' G1 G2 G3 : List Sl} {ta tb tc te : TE} {i j : Nat} {t u : TS} {E : Ends}
theorem ev_nisB {a b : Bool} (ha : EvX K ta G a G1) (hb : EvX K tb G1 b G2) : EvX K (tOp rNotB ta tb) G (!decide (a = b)) G2 := fun B S0 S σ H F k Q q =>
  ha B S0 S σ H F k _ fun v S1 H1 e1 k1 r1 => hb B S0 S1 σ H1 F k1 _ fun w S2 H2 e2 k2 r2 => ⟨a, b, r1, r2, q _ S2 H2 (e1.trans e2) k2 rfl⟩
section
variable {tt uu : TT} {b c : Bool} {ω : Type} [Own ω] {z z' : ω}
end
end
end GL
namespace GL
open PySem PySem.Spec PyProof.Rows L2
class PyF (α : Type) [Py α] where
  repF : Fg → Hp → Hp → V → α → Prop
  un : ∀ {K : Fg} {D S : Hp} {v : V} {x : α}, repF K D S v x → Py.rep K S v x
  mono : ∀ {K : Fg} {D S S' : Hp} {v : V} {x : α}, Same S S' → repF K D S v x → repF K D S' v x
  anti : ∀ {K : Fg} {D D' S : Hp} {v : V} {x : α}, Same D' D → repF K D S v x → repF K D' S v x
class PyT (α : Type) [Py α] [PyF α] : Prop where
  of : ∀ {K : Fg} {D S : Hp} {v : V} {x : α}, Py.rep K S v x → PyF.repF K D S v x
structure Fx (α : Type) where
  D : Hp
  x : α
@[reducible] def trivF (α : Type) [Py α] : PyF α := ⟨fun K _ S v x => Py.rep K S v x, fun h => h, fun e h => Py.mono e h, fun _ h => h⟩
instance : PyF Int := trivF Int
instance : PyF Bool := trivF Bool
instance : PyF Str := trivF Str
instance : PyF Unit := trivF Unit
instance {α : Type} [Py α] : PyF (Tp α) := trivF (Tp α)
instance : PyF (Option Int) := trivF (Option Int)
instance : PyT Int := ⟨fun h => h⟩
instance : PyT Bool := ⟨fun h => h⟩
instance : PyT Str := ⟨fun h => h⟩
instance : PyT Unit := ⟨fun h => h⟩
instance {α : Type} [Py α] : PyT (Tp α) := ⟨fun h => h⟩
instance : PyT (Option Int) := ⟨fun h => h⟩
section
variable {α β γ : Type} [Py α] [Py β] [Py γ]
instance : PyF (List α) := ⟨fun K D S v x => Py.rep K S v x ∧ ∃ p, v = .ref p ∧ D p = none, fun h => h.1, fun e h => ⟨Py.mono e h.1, h.2⟩, fun e ⟨h, p, h1, h2⟩ => ⟨h, p, h1, e.free h2⟩⟩
instance [PyF α] [PyF β] : PyF (α × β) := ⟨fun K D S v x => ∃ p a b, v = .ref p ∧ SqT K S p [a, b] ∧ PyF.repF K D S a x.1 ∧ PyF.repF K D S b x.2,
  fun ⟨p, a, b, h1, h2, h3, h4⟩ => ⟨p, a, b, h1, h2, PyF.un h3, PyF.un h4⟩, fun e ⟨p, a, b, h1, h2, h3, h4⟩ => ⟨p, a, b, h1, seqT e h2, PyF.mono e h3, PyF.mono e h4⟩, fun e ⟨p, a, b, h1, h2, h3, h4⟩ => ⟨p, a, b, h1, h2, PyF.anti e h3, PyF.anti e h4⟩⟩
instance [PyF α] [PyF β] [PyF γ] : PyF (T3 α β γ) := ⟨fun K D S v x => ∃ p a b c, v = .ref p ∧ SqT K S p [a, b, c] ∧ PyF.repF K D S a x.a ∧ PyF.repF K D S b x.b ∧ PyF.repF K D S c x.c,
  fun ⟨p, a, b, c, h1, h2, h3, h4, h5⟩ => ⟨p, a, b, c, h1, h2, PyF.un h3, PyF.un h4, PyF.un h5⟩, fun e ⟨p, a, b, c, h1, h2, h3, h4, h5⟩ => ⟨p, a, b, c, h1, seqT e h2, PyF.mono e h3, PyF.mono e h4, PyF.mono e h5⟩,
  fun e ⟨p, a, b, c, h1, h2, h3, h4, h5⟩ => ⟨p, a, b, c, h1, h2, PyF.anti e h3, PyF.anti e h4, PyF.anti e h5⟩⟩
instance [PyF α] [PyF β] : PyF (Sum α β) := ⟨fun K D S v x => match x with | .inl y => PyF.repF K D S v y | .inr y => PyF.repF K D S v y,
  fun {K D S v x} h => by cases x with | inl y => exact PyF.un (α := α) h | inr y => exact PyF.un (α := β) h, fun {K D S S' v x} e h => by cases x with | inl y => exact PyF.mono (α := α) e h | inr y => exact PyF.mono (α := β) e h,
  fun {K D D' S v x} e h => by cases x with | inl y => exact PyF.anti (α := α) e h | inr y => exact PyF.anti (α := β) e h⟩
instance [PyF α] : Py (Fx α) := ⟨fun K S v y => PyF.repF K y.D S v y.x, fun e h => PyF.mono e h⟩
end
section
variable {K : Fg} {B S0 S1 S S' D : Hp} {σ : L2.St} {H H' : Hp} {F : Nat → List Addr} {G G' G1 G2 G3 : List Sl} {ta tb tc te : TE} {i j : Nat} {t u : TS} {E : Ends}
section
variable {α β γ : Type} [Py α] [Py β] [Py γ] [PyF α] [PyF β] [PyF γ] {x : α} {y : β} {z : γ}
theorem EvX.toF {δ : Type} [Py δ] [PyF δ] [PyT δ] {x : δ} (D : Hp) (h : EvX K te G x G1) : EvX K te G (Fx.mk D x) G1 := fun B S0 S σ H F k Q q => h B S0 S σ H F k Q fun v S' H' e k' r => q v S' H' e k' (PyT.of r)
theorem ev_t3F (ha : EvX K ta G (Fx.mk D x) G1) (hb : EvX K tb G1 (Fx.mk D y) G2) (hc : EvX K tc G2 (Fx.mk D z) G3) : EvX K (tTup (tCons ta (tCons tb (tCons tc tNil)))) G (Fx.mk D (T3.mk x y z)) G3 := fun B S0 S σ H F k Q q =>
  ha B S0 S σ H F k _ fun v S1 H1 e1 k1 r1 => hb B S0 S1 σ H1 F k1 _ fun u S2 H2 e2 k2 r2 => hc B S0 S2 σ H2 F k2 _ fun w S3 H3 e3 k3 r3 => ⟨by show 3 ≤ sizeLine; decide, fun p hp => by
    have e4 := same_new (o := .tup [v, u, w]) (k3.free hp).1
    exact q (.ref p) _ _ (((e1.trans e2).trans e3).trans e4) (k3.new hp) ⟨p, v, u, w, rfl, SqT.of upd_same, PyF.mono ((e2.trans e3).trans e4) r1, PyF.mono (e3.trans e4) r2, PyF.mono e4 r3⟩⟩
theorem at_relF {δ : Type} [Py δ] {x : List δ} {i : Nat} {P : L2.St → Hp → Prop} (h : G[i]? = some (.ow x)) (q : At K B S0 P (G.set i (.im (Fx.mk B x)))) : At K B S0 P G := fun S σ H F k => by
  obtain ⟨S', e, k'⟩ := k.relL h
  obtain ⟨v, hv, p, vs, rfl, hp, h1, h2⟩ := k.ow h
  obtain ⟨hs, hb, _⟩ := k.off i p (by rw [hp]; exact List.mem_singleton.mpr rfl)
  refine q S' σ H (upF F i []) ?_
  have hl : i < G.length := (List.getElem?_eq_some_iff.mp h).1
  obtain ⟨w, hw, rw_⟩ := k'.im (x := x) (i := i) (List.getElem?_set_self hl)
  rw [hv] at hw
  cases hw
  have k3 := k'.set (i := i) (v := .ref p) (x := Fx.mk B x) ⟨rw_, p, rfl, hb⟩ (by rw [List.getElem?_set_self hl]; rfl)
  have e1 : σ.set i (some (.ref p)) = σ := by
    apply List.ext_getElem?
    intro j
    by_cases e : i = j
    · subst e
      rw [List.getElem?_set_self (by rw [← k.len]; exact hl)]
      exact hv.symm
    · rw [List.getElem?_set_ne e]
  rw [e1, List.set_set] at k3
  exact k3
theorem q_retLF {δ : Type} [Py δ] {xs : List δ} (h : EvL K te G xs G1) (k : RT K B S0 E.rt (Fx.mk B xs) G1) : At K B S0 (tSeq (tRet te) u E) G := fun S σ H F kn =>
  h B S0 S σ H F kn _ fun p vs S' H' e kn' hs hb hf hp r =>
    k (upd S' p (.lst vs)) σ H' F (.ref p) (kn'.settle hp hs hb hf) ⟨⟨p, vs, rfl, upd_same, r.mono (same_new hs)⟩, p, rfl, hb⟩
end
def spN {α β : Type} [PyA α] [Py β] [PyF β] (K : Fg) (f : α → β) (pre : α → Prop) : Sp := fun vs H Q _ => ∃ (S : Hp) (a : α), Same S H ∧ PyA.rep K S vs a ∧ pre a ∧ ∀ v S' H', Grow S H S' H' → PyF.repF K H S' v (f a) → Q v H'
section
variable {α β : Type} [PyA α] [Py β] [PyF β] {f : α → β} {pre : α → Prop} {a : α} {t : TA} {E : XK} {g : TG} {D : Ends}
theorem ev_callN (ha : EvA K t G a G1) (hp : pre a) : EvX K (tCall (spN K f pre) [] E t) G (f a) G1 := fun B S0 S σ H F k Q q =>
  ha B S0 S σ H F k _ fun vs S1 H1 e1 k1 r1 => by
    rw [List.append_nil]
    exact ⟨S1, a, k1.sub, r1, hp, fun v S2 H2 g r2 => q v S2 H2 (e1.trans g.s) (k1.grow g) (PyF.un r2)⟩
end
section
variable {P : Program} {w : World} {mg : Str → Option Value} {base : Heap} {α β : Type} [Sls α] [Py β] [PyF β]
theorem def_spN {x : Str} {st : Stmt} {N ps : List Str} {k : Nat} {f : α → β} {pre : α → Prop} (D : Def K mg x st ps) (S : FnScope N ps (defScope st)) (hn : PyA.n α = ps.length)
    (h : ∀ (fa : Addr) (cdv : Value) (A : Around) (outer : List Env) (s : Shared) (H : Hp) (E : XK), Room k (A.deeper (envOfC x (defScope st) s.heap.objs.size fa cdv)) →
      ∃ t, PSs (cxOf CX0 P w K mg base N x (defScope st) fa cdv A outer s H E).nox (defBody st) t ∧
        ∀ (a : α), pre a → ∀ (B S0 : Hp) (Q : VK), (∀ G' y, y = f a → RT K B S0 Q (Fx.mk B y) G') → At K B S0 (t { nx := fun _ H' => Q .non H', rt := Q }) (Sls.sls a ++ List.replicate (N.length - PyA.n α) .no)) :
    Cal P w K mg base (k + 1) x ps (spN K f pre) := by
  obtain ⟨fa, fd, m, F, b⟩ := D.ex
  refine ⟨fa, fd, m, F.ok S (fun vs H Q E ⟨S, a, _, r, _⟩ => (PyA.len r).trans hn) fun cdv A outer s H vs Q E hr ⟨S', a, e, r, hp, q⟩ => ?_, F.kp, b⟩
  obtain ⟨t, h1, h2⟩ := h fa cdv A outer s H E hr
  refine ⟨t, h1, h2 a hp H S' Q (fun G' y ey S1 σ1 H1 F1 v k1 r1 => ?_) S' _ H _ (start_kn e r)⟩
  subst ey
  exact q v S1 H1 ⟨k1.s0, k1.sub, k1.keep, k1.clean⟩ r1
end
structure At1 (α : Type) where
  S : Hp
  x : α
instance {α : Type} [Py α] : Py (At1 α) := ⟨fun K S v y => Py.rep K y.S v y.x ∧ Same y.S S, fun e h => ⟨h.1, h.2.trans e⟩⟩
def frz (S : Hp) : Sl → Sl
  | .no => .no
  | @Sl.im _ i x => @Sl.im _ (@instPyAt1 _ i) (At1.mk S x)
  | @Sl.ow _ i x => @Sl.ow _ i x
theorem Kn.frz (k : Kn K B S0 S σ H F G) : Kn K B S S σ H F (G.map (GL.frz S)) := by
  have k1 := k.reb
  refine ⟨k1.s0, k1.sub, k1.keep, k1.clean, k1.off, k1.dj, by rw [List.length_map]; exact k1.len, fun i s e => ?_⟩
  rw [List.getElem?_map] at e
  cases q : G[i]? with
  | none => rw [q] at e; cases e
  | some s0 =>
    rw [q] at e
    cases e
    have z := k1.sl i s0 q
    cases s0 with
    | no => exact True.intro
    | im x =>
      obtain ⟨v, h1, h2⟩ := z
      exact ⟨v, h1, h2, Same.refl _⟩
    | ow x => exact z
class OwnI (ω : Type) [Own ω] : Prop where
  go : ∀ {K : Fg} {S S' H : Hp} {v : V} {ps : List Addr} {x : ω}, Own.own K S H v ps x → Own.own K S' H v ps x
instance : OwnI Spr := ⟨fun h => h⟩
instance : OwnI (List Int) := ⟨fun {K S S' H v ps x} ⟨p, vs, h1, h2, h3, h4⟩ => ⟨p, vs, h1, h2, h3, by rw [h4.ints]; exact RepL.of_ints x⟩⟩
inductive Thw (S : Hp) : List Sl → List Sl → Prop
  | n : Thw S [] []
  | k {α : Type} [Py α] {x : α} {G G' : List Sl} : Thw S G G' → Thw S (.im (At1.mk S x) :: G) (.im (At1.mk S x) :: G')
  | o {α : Type} [Own α] [OwnI α] {x : α} {G G' : List Sl} : Thw S G G' → Thw S (.ow x :: G) (.ow x :: G')
  | d {s : Sl} {G G' : List Sl} : Thw S G G' → Thw S (.no :: G) (s :: G')
theorem Thw.len {G G' : List Sl} (h : Thw S G G') : G.length = G'.length := by
  induction h with
  | n => rfl
  | k _ ih => rw [List.length_cons, List.length_cons, ih]
  | o _ ih => rw [List.length_cons, List.length_cons, ih]
  | d _ ih => rw [List.length_cons, List.length_cons, ih]
theorem Thw.ok {S2 : Hp} {G G' : List Sl} (t : Thw S G G') : ∀ (f : Nat → Option (Option V)) (F : Nat → List Addr) (H' : Hp), (∀ i p, p ∈ F i → H' p = H p) → (∀ i s, G'[i]? = some s → SlOk K S2 H (f i) (F i) s) → ∀ i s, G[i]? = some s → SlOk K S H' (f i) (F i) s := by
  induction t with
  | n => intro f F H' hH h i s e; simp at e
  | k t ih =>
    intro f F H' hH h i s e
    cases i with
    | zero =>
      simp only [List.getElem?_cons_zero, Option.some.injEq] at e
      subst e
      obtain ⟨v, h1, h2, h3⟩ := h 0 _ rfl
      exact ⟨v, h1, h2, Same.refl _⟩
    | succ i => exact ih (fun i => f (i + 1)) (fun i => F (i + 1)) H' (fun i p hp => hH (i + 1) p hp) (fun i s e => h (i + 1) s (by simpa using e)) i s (by simpa using e)
  | o t ih =>
    intro f F H' hH h i s e
    cases i with
    | zero =>
      simp only [List.getElem?_cons_zero, Option.some.injEq] at e
      subst e
      obtain ⟨v, h1, h2⟩ := h 0 _ rfl
      exact ⟨v, h1, Own.mono (Same.refl _) (fun p hp => hH 0 p hp) (OwnI.go h2)⟩
    | succ i => exact ih (fun i => f (i + 1)) (fun i => F (i + 1)) H' (fun i p hp => hH (i + 1) p hp) (fun i s e => h (i + 1) s (by simpa using e)) i s (by simpa using e)
  | d t ih =>
    intro f F H' hH h i s e
    cases i with
    | zero =>
      simp only [List.getElem?_cons_zero, Option.some.injEq] at e
      subst e
      exact True.intro
    | succ i => exact ih (fun i => f (i + 1)) (fun i => F (i + 1)) H' (fun i p hp => hH (i + 1) p hp) (fun i s e => h (i + 1) s (by simpa using e)) i s (by simpa using e)
section
variable {α : Type} [Py α] {xs : List α} {D : Ends}
end
section
variable {α τ : Type} [Py α] {wi : TI} {g : TG} {tb : TS} {xs : List α}
end
end
end GL
set_option maxHeartbeats 4000000
namespace L2
open PySem PySem.Spec PyProof.Rows
def Two (h : Heap) (v : Value) (m n : Int) : Prop := ∃ (t : Addr) (o : Obj) (c : Nat) (u1 u2 : Tok), v = .ref t ∧ h.get? t = some o ∧ o.cls = .type "tuple" ∧ o.data = .seq #[Value.int m u1, Value.int n u2] c
section
variable {prog : Program} {w : World} {A : Around} {E : Value → Shared → Prop} {s : Shared}
theorem two_key {h : Heap} {v : Value} {m n : Int} (x : Two h v m n) : G.tupKeyC h (fun _ => false) v = some [Sum.inl m, Sum.inl n] := by
  obtain ⟨t, o, c, u1, u2, e, ho, hc, hd⟩ := x
  rw [e]
  exact G.tupKeyC_of ho hc hd rfl
theorem key_le {m n m' n' : Int} (g : lexLt itemOrd [Sum.inl m', Sum.inl n'] [Sum.inl m, Sum.inl n] = false) : le2 (m, n) (m', n') := by
  rw [lex_false] at g
  have a1 := of_decide_eq_false (show decide (m' < m) = false from g.1)
  rcases g.2 with g2 | g2
  · exact .inl (of_decide_eq_true (show decide (m < m') = true from g2))
  · rw [lex_false] at g2
    have a2 := of_decide_eq_false (show decide (n' < n) = false from g2.1)
    show m < m' ∨ (m = m' ∧ n ≤ n')
    omega
theorem sort_two {a : Addr} {vs : List Value} {n : Nat} {Q : Value → Shared → Prop} (ho : s.heap.get? a = some (seqObj "list" vs.toArray n)) (hv : ∀ v ∈ vs, ∃ m k, Two s.heap v m k) (hz : vs.length ≤ sizeLine)
    (h : ∀ out : Array Value, out.toList.Perm vs → out.toList.Pairwise (fun u v => ∀ m n m' n', Two s.heap u m n → Two s.heap v m' n' → le2 (m, n) (m', n')) → Q .none { s with heap := sortedHeap s.heap a vs out }) :
    wpAny (model prog w) A (call (.builtin "list.sort") [.ref a]) Q E s := by
  obtain ⟨fs, hfs⟩ := tupsOf_all (h := s.heap) (vs := vs) fun v q => by
    obtain ⟨m, k, t, o, c, u1, u2, e, h1, h2, h3⟩ := hv v q
    exact ⟨.int m u1, t, o, _, c, e, h1, h2, h3, rfl, fun _ => ⟨m, u1, rfl⟩, fun z => absurd z Bool.false_ne_true⟩
  have hk : ∀ v, v ∈ vs → ∃ l, G.tupKeyC s.heap (fun _ => false) v = some l := fun v q => by
    obtain ⟨m, k, x⟩ := hv v q
    exact ⟨_, two_key x⟩
  refine wpAny_call_entry slot_list_sort ⟨_, ho, rfl⟩ entry_list_sort (G.list_sort_tups (shape := fun _ => false) ho hfs hk hz fun st pm so _ => ⟨_, rfl, ?_⟩) (args_list_sort _)
  have p2 : (arrOf st).toList.Perm (vs.map fun v => (v, v)) := by
    have q := Array.perm_iff_toList_perm.mp pm
    rw [pairsOf_toList] at q
    exact q.trans (List.Perm.of_eq (by rw [List.zip_eq_zipWith, List.zipWith_self]))
  have mm : ∀ p ∈ (arrOf st).toList, p.1 = p.2 ∧ p.2 ∈ vs := fun p hp => by
    obtain ⟨v, q, rfl⟩ := List.mem_map.mp (p2.mem_iff.mp hp)
    exact ⟨rfl, q⟩
  have sz : (arrOf st).size = (pairsOf vs).size := by
    rw [← Array.length_toList, ← Array.length_toList]
    exact (Array.perm_iff_toList_perm.mp pm).length_eq
  have pw := keyLe_of_sorted (κ := G.tupKindC s.heap (fun _ => false)) (xs := arrOf st) (fun p hp => by
    obtain ⟨e, q⟩ := mm p hp
    rw [e]
    exact hk _ q) (by rw [sz]; exact so)
  refine h _ ?_ ?_
  · rw [Array.toList_map]
    refine (p2.map (·.2)).trans (List.Perm.of_eq ?_)
    rw [List.map_map]
    exact (List.map_congr_left fun v _ => rfl).trans (List.map_id vs)
  · rw [Array.toList_map, List.pairwise_map]
    refine List.Pairwise.imp_of_mem (fun {p p'} q q' hle m n m' n' x x' => ?_) pw
    obtain ⟨k1, k2, z1, z2, hk⟩ := hle
    rw [(mm p q).1] at z1
    rw [(mm p' q').1] at z2
    have f1 := Option.some.inj (z1.symm.trans (two_key x))
    have f2 := Option.some.inj (z2.symm.trans (two_key x'))
    rw [f1, f2] at hk
    exact key_le hk
end
section
variable {P : Program} {w : World} {A : Around} {E : Value → Shared → Prop} {s : Shared}
theorem refs_in {L : List (Addr × List Int)} : ∀ us : List Value, (∀ u ∈ us, ∃ q ∈ L, u = Value.ref q.1) → ∃ M : List (Addr × List Int), us = M.map (fun q => Value.ref q.1) ∧ ∀ q ∈ M, q ∈ L
  | [], _ => ⟨[], rfl, fun q z => nomatch z⟩
  | u :: us, h => by
    obtain ⟨q, hq, e⟩ := h u List.mem_cons_self
    obtain ⟨M, e1, h1⟩ := refs_in us fun x hx => h x (List.mem_cons_of_mem _ hx)
    exact ⟨q :: M, by rw [List.map_cons, e, e1], fun r hr => (List.mem_cons.mp hr).elim (fun z => z ▸ hq) (h1 r)⟩
theorem two_isT {h : Heap} {b : Addr} {m n : Int} (x : IsT P w h [m, n] b) : Two h (.ref b) m n := by
  obtain ⟨o, items, c, h1, h2, h3, h4⟩ := x
  obtain ⟨l⟩ := items
  cases ints_of_items h4 with
  | cons _ t1 r =>
    cases r with
    | cons _ t2 r =>
      cases r
      exact ⟨b, o, c, t1, t2, rfl, h1, h2, h3⟩
theorem Two.keep {h h' : Heap} {v : Value} {m n : Int} (k : ∀ b o, h.get? b = some o → h'.get? b = some o) (x : Two h v m n) : Two h' v m n := by
  obtain ⟨t, o, c, u1, u2, e, h1, h2⟩ := x
  exact ⟨t, o, c, u1, u2, e, k t o h1, h2⟩
end
section
variable {X : Cx}
def tSortSet2 (K : PySem.W.Frag) (ta : TE) : TE := fun σ H Q => ta σ H fun x H1 => ∃ (l : Addr) (xs : List V), x = V.ref l ∧ SqL K H1 l xs ∧ xs.length < 64 ∧ (∀ x ∈ xs, ∃ m n : Int, TupI K H1 x [m, n]) ∧
  ∀ (ys : List V) (p : Addr), (∀ y ∈ ys, y ∈ xs) → (∀ x ∈ xs, ∀ m n, TupI K H1 x [m, n] → ∃ y ∈ ys, ∀ m' n', TupI K H1 y [m', n'] → (m', n') = (m, n)) → ys.Pairwise (fun x y => ∀ m n m' n', TupI K H1 x [m, n] → TupI K H1 y [m', n'] → le2 (m, n) (m', n') ∧ (m, n) ≠ (m', n')) → ys.length < 64 → H1 p = none → Q (.ref p) (upd H1 p (.lst ys))
end
end L2
namespace GL
open PySem PySem.Spec PyProof.Rows L2
section
variable {K : Fg} {B S0 S1 S S' : Hp} {σ : L2.St} {H H' : Hp} {F : Nat → List Addr} {G G' G1 G2 G3 : List Sl} {ta tb tc te : TE} {i j : Nat} {u : TS} {E : Ends}
def lt2 (a b : Int × Int) : Prop := a.1 < b.1 ∨ (a.1 = b.1 ∧ a.2 < b.2)
theorem lt2_of {a b : Int × Int} (h : le2 a b) (ne : a ≠ b) : lt2 a b := by
  unfold le2 at h
  unfold lt2
  rcases h with h | ⟨h1, h2⟩
  · exact .inl h
  · by_cases e : a.2 = b.2
    · exact absurd (Prod.ext h1 e) ne
    · exact .inr ⟨h1, by omega⟩
theorem lt2_ne {a b : Int × Int} (h : lt2 a b) : a ≠ b := fun e => by
  rw [e] at h
  unfold lt2 at h
  omega
theorem lt2_asymm {a b : Int × Int} (h : lt2 a b) (h' : lt2 b a) : False := by unfold lt2 at *; omega
@[irreducible] def usrt2 (xs : List (Int × Int)) : List (Int × Int) := srt2 xs.eraseDups
theorem mem_usrt2 {xs : List (Int × Int)} {k : Int × Int} : k ∈ usrt2 xs ↔ k ∈ xs := by
  unfold usrt2
  rw [(srt2_perm _).mem_iff, List.mem_eraseDups]
theorem nodup_eraseDups2 {δ : Type} [BEq δ] [LawfulBEq δ] (xs : List δ) : xs.eraseDups.Nodup := by
  generalize hn : xs.length = n
  induction n using Nat.strongRecOn generalizing xs with
  | _ n ih =>
    cases xs with
    | nil => simp
    | cons a l =>
      rw [List.eraseDups_cons]
      refine List.nodup_cons.mpr ⟨?_, ih _ ?_ _ rfl⟩
      · rw [List.mem_eraseDups, List.mem_filter]; simp
      · have := List.length_filter_le (fun b => !b == a) l
        simp only [List.length_cons] at hn
        omega
theorem usrt2_pw (xs : List (Int × Int)) : (usrt2 xs).Pairwise lt2 := by
  unfold usrt2
  have h1 := srt2_sorted xs.eraseDups
  have h2 : (srt2 xs.eraseDups).Nodup := (srt2_perm _).symm.nodup (nodup_eraseDups2 xs)
  exact (h1.and h2).imp fun ⟨a, b⟩ => lt2_of a b
theorem pw_lt2_unique : ∀ {xs ys : List (Int × Int)}, xs.Pairwise lt2 → ys.Pairwise lt2 → (∀ k, k ∈ xs ↔ k ∈ ys) → xs = ys
  | [], [], _, _, _ => rfl
  | [], y :: ys, _, _, h => absurd ((h y).mpr List.mem_cons_self) (by simp)
  | x :: xs, [], _, _, h => absurd ((h x).mp List.mem_cons_self) (by simp)
  | x :: xs, y :: ys, hx, hy, h => by
    have hx' := List.pairwise_cons.mp hx
    have hy' := List.pairwise_cons.mp hy
    have e : x = y := by
      rcases List.mem_cons.mp ((h x).mp List.mem_cons_self) with e | e
      · exact e
      · rcases List.mem_cons.mp ((h y).mpr List.mem_cons_self) with e2 | e2
        · exact e2.symm
        · exact (lt2_asymm (hx'.1 _ e2) (hy'.1 _ e)).elim
    subst e
    rw [pw_lt2_unique hx'.2 hy'.2 fun k => ?_]
    constructor
    · intro hk
      rcases List.mem_cons.mp ((h k).mp (List.mem_cons_of_mem _ hk)) with e | e
      · exact absurd e.symm (lt2_ne (hx'.1 _ hk))
      · exact e
    · intro hk
      rcases List.mem_cons.mp ((h k).mpr (List.mem_cons_of_mem _ hk)) with e | e
      · exact absurd e.symm (lt2_ne (hy'.1 _ hk))
      · exact e
theorem usrt2_eq {xs ys : List (Int × Int)} (h : ys.Pairwise lt2) (m : ∀ k, k ∈ ys ↔ k ∈ xs) : ys = usrt2 xs := pw_lt2_unique h (usrt2_pw xs) fun k => (m k).trans mem_usrt2.symm
end
end GL
namespace GL
open PySem PySem.Spec PyProof.Rows L2
section
variable {K : Fg} {B S0 S1 S S' D : Hp} {σ : L2.St} {H H' : Hp} {F : Nat → List Addr} {G G' G1 G2 G3 : List Sl} {ta tb tc te : TE} {i j : Nat} {t u : TS} {E : Ends}
section
variable {α β γ δ : Type} [Py α] [Py β] [Py γ] [Py δ] [PyF α] [PyF β] [PyF γ] [PyF δ] {g1 g2 g3 : TG} {t1 t2 t3 : List Nat}
end
section
variable {α β ω : Type} [Py α] [Py β] [Py ω] {D : Ends}
end
def EvOS (K : Fg) (t : TO) (G : List Sl) (o : Option Int) (G' : List Sl) : Prop := ∀ B S0 S σ H F, Kn K B S0 S σ H F G → ∀ Q : Option Int → Hp → Prop, (∀ S' H', Same S S' → Kn K B S0 S' σ H' F G' → Q o H') → t σ H Q
end
end GL
namespace GL
open PySem PySem.Spec PyProof.Rows L2
structure Pen where
  a : Addr
  q : Addr
  l : List Int
  p : Nat
  w : Int
instance : Own Pen := ⟨fun K S H v ps x => v = .ref x.a ∧ ps = [x.a, x.q] ∧ H x.a = some (.lst [.ref x.q, .int x.p, .int x.w]) ∧ H x.q = some (.lst (x.l.map V.int)), fun {K S S' H H' v ps x} e a ⟨h1, h2, h3, h4⟩ =>
  ⟨h1, h2, by rw [a x.a (by rw [h2]; simp)]; exact h3, by rw [a x.q (by rw [h2]; simp)]; exact h4⟩⟩
instance : Anch Pen := ⟨fun x => (.ref x.a, [x.a, x.q]), fun ⟨h1, h2, _⟩ => by rw [h1, h2]⟩
instance : OwnI Pen := ⟨fun h => h⟩
section
variable {K : Fg} {B S0 S1 S S' D : Hp} {σ : L2.St} {H H' : Hp} {F : Nat → List Addr} {G G' G1 G2 G3 : List Sl} {ta tb tc te : TE} {i j : Nat} {t u : TS} {E : Ends}
variable {z : Pen}
end
def spPen (K : Fg) : Sp := fun vs H Q _ => ∃ (S : Hp) (a : Scr × Unit), Same S H ∧ PyA.rep K S vs a ∧ a.1.l.length ≤ 63 ∧ ∀ (l : List Int) (p q : Addr) (S' H' : Hp), Grow S H S' H' → l.length ≤ 63 → H p = none → S' p = none → H q = none → S' q = none → H' p = some (.lst [.ref q, .int 0, .int 0]) → H' q = some (.lst (l.map V.int)) → Q (.ref p) H'
section
variable {P : Program} {w : World} {K : Fg} {mg : Str → Option Value} {base : Heap} {B S0 : Hp} {G G1 : List Sl} {t : TA} {E : XK} {u : TS} {D : Ends} {te : TE}
end
def cellM (l : List Int) (p : Nat) : Int := if decide ((p : Int) < (l.length : Int)) = true then ix l (p : Int) else if decide (0 < (l.length : Int)) = true then ix l ((p : Int) * 5 % (l.length : Int)) % 1000003 + 89 * (p : Int) else 0
def oneM (c : Int) (p : Nat) : Int := (c % 1000000007 + 61 * (p : Int) + 1) * 16807 % 2147483647
def twoM (c : Int) (p : Nat) : Int := (oneM c p * oneM c p + 48271 * (p : Int) + 3) % 998244353
def drawM (c : Int) (p : Nat) : Int := if decide ((10 : Int) ^ (18 : Int).toNat ≤ c) = true then c / (10 : Int) ^ (18 : Int).toNat else (twoM c p * 1000000007 + (twoM c p * twoM c p + oneM c p) % 1000000007) / 32 + 1
def fillM (z : Pen) : Pen := if decide (z.w = 0) = true then ⟨z.a, z.q, z.l, z.p + 1, drawM (cellM z.l z.p) z.p⟩ else z
@[irreducible] def penTake (z : Pen) (m : Int) : Int × Pen := ((fillM z).w % m, ⟨(fillM z).a, (fillM z).q, (fillM z).l, (fillM z).p, (fillM z).w / m⟩)
end GL
namespace GL
open PySem PySem.Spec PyProof.Rows L2
abbrev spRP {α β : Type} [PyA α] [Py β] (K : Fg) (R : α → β → Prop) (pre : α → Prop) : Sp := spR (ω := Pen) K Pen R pre
section
variable {K : Fg} {B S0 : Hp} {G G1 : List Sl} {u : TS} {D : Ends} {α β : Type} [PyA α] [Py β] {R : α → β → Prop} {pre : α → Prop} {z z1 : Pen} {a : α} {t : TA} {E : XK} {g : TG}
end
section
variable {P : Program} {w : World} {K : Fg} {mg : Str → Option Value} {base : Heap} {α β : Type} [Sls α] [Py β]
end
end GL
namespace GL
end GL
set_option maxHeartbeats 4000000
namespace L2
open PySem PySem.Spec PyProof.Rows GL
def rGe2 (K : PySem.W.Frag) : R2 := fun x y H Q => ∃ m n m' n' : Int, TupI K H x [m, n] ∧ TupI K H y [m', n'] ∧ Q (.bl (le2b (m', n') (m, n))) H
end L2
namespace GL
open PySem PySem.Spec PyProof.Rows L2
section
variable {K : Fg} {G G1 G2 : List Sl} {ta tb : TE}
def lastI {α : Type} [Inhabited α] (xs : List α) : α := ix xs ((xs.length : Int) - 1)
end
end GL
set_option maxHeartbeats 4000000
namespace GL
open PySem PySem.Spec PyProof.Rows L2
section
variable {K : Fg} {B S0 : Hp} {G G1 G2 : List Sl} {ta tb tc te : TE} {i j : Nat} {u : TS} {E : Ends}
end
end GL
set_option maxHeartbeats 4000000
namespace GL
open PySem PySem.Spec PyProof.Rows L2
section
variable {K : Fg} {G : List Sl} {i j : Nat}
def pickX {τ α β : Type} (f : τ → α → Bool) (e : α → β) (step : τ → α → τ) (xs : List α) (s0 : τ) : List β × τ := xs.foldl (fun (a : List β × τ) x => (if f a.2 x = true then a.1 ++ [e x] else a.1, step a.2 x)) ([], s0)
end
section
variable {K : Fg} {B S0 : Hp} {G G1 G2 G3 : List Sl} {ta tb tc : TE} {u : TS} {E : Ends}
end
end GL
namespace GL
open PySem PySem.Spec PyProof.Rows L2
inductive Dat
  | non
  | int (i : Int)
  | bl (b : Bool)
  | str (s : Str)
  | tup (l : List Dat)
  | lst (l : List Dat)
mutual
inductive DRep (K : Fg) (S : Hp) : V → Dat → Prop
  | non : DRep K S .non .non
  | int (i : Int) : DRep K S (.int i) (.int i)
  | bl (b : Bool) : DRep K S (.bl b) (.bl b)
  | str (s : Str) : DRep K S (.str s) (.str s)
  | tup {p : Addr} {vs : List V} {l : List Dat} : SqT K S p vs → DRepL K S vs l → DRep K S (.ref p) (.tup l)
  | lst {p : Addr} {vs : List V} {l : List Dat} : S p = some (.lst vs) → DRepL K S vs l → DRep K S (.ref p) (.lst l)
inductive DRepL (K : Fg) (S : Hp) : List V → List Dat → Prop
  | nil : DRepL K S [] []
  | cons {v : V} {d : Dat} {vs : List V} {l : List Dat} : DRep K S v d → DRepL K S vs l → DRepL K S (v :: vs) (d :: l)
end
mutual
theorem DRep.mono {K : Fg} {S S' : Hp} (e : Same S S') : ∀ {v : V} {d : Dat}, DRep K S v d → DRep K S' v d
  | _, _, .non => .non
  | _, _, .int i => .int i
  | _, _, .bl i => .bl i
  | _, _, .str i => .str i
  | _, _, .tup h r => .tup (seqT e h) (DRepL.mono e r)
  | _, _, .lst h r => .lst (e _ _ h) (DRepL.mono e r)
theorem DRepL.mono {K : Fg} {S S' : Hp} (e : Same S S') : ∀ {vs : List V} {l : List Dat}, DRepL K S vs l → DRepL K S' vs l
  | _, _, .nil => .nil
  | _, _, .cons h r => .cons (DRep.mono e h) (DRepL.mono e r)
end
instance : Py Dat := ⟨fun K S v d => DRep K S v d, fun e h => h.mono e⟩
theorem DRepL.rep {K : Fg} {S : Hp} : ∀ {vs : List V} {l : List Dat}, DRepL K S vs l → RepL K S vs l
  | _, _, .nil => True.intro
  | _, _, .cons h r => ⟨h, DRepL.rep r⟩
inductive DLe : Nat → Dat → Prop
  | non {k : Nat} : DLe k .non
  | int {k : Nat} {i : Int} : DLe k (.int i)
  | bl {k : Nat} {i : Bool} : DLe k (.bl i)
  | str {k : Nat} {i : Str} : DLe k (.str i)
  | tup {k : Nat} {l : List Dat} : l.length ≤ 1000000 → (∀ x ∈ l, DLe k x) → DLe (k + 1) (.tup l)
  | lst {k : Nat} {l : List Dat} : l.length ≤ 1000000 → (∀ x ∈ l, DLe k x) → DLe (k + 1) (.lst l)
class ToD (α : Type) [Py α] where
  dat : α → Dat
  of : ∀ {K : Fg} {S : Hp} {v : V} {x : α}, Py.rep K S v x → DRep K S v (dat x)
instance : ToD Int := ⟨.int, fun h => by rw [show _ = V.int _ from h]; exact .int _⟩
instance : ToD Bool := ⟨.bl, fun h => by rw [show _ = V.bl _ from h]; exact .bl _⟩
instance : ToD Str := ⟨.str, fun h => by rw [show _ = V.str _ from h]; exact .str _⟩
instance : ToD Unit := ⟨fun _ => .non, fun h => by rw [show _ = V.non from h]; exact .non⟩
instance : ToD Dat := ⟨fun d => d, fun h => h⟩
section
variable {α β γ : Type} [Py α] [Py β] [Py γ] [ToD α] [ToD β] [ToD γ]
theorem RepL.toD {K : Fg} {S : Hp} : ∀ {vs : List V} {l : List α}, RepL K S vs l → DRepL K S vs (l.map ToD.dat)
  | [], [], _ => .nil
  | _ :: _, _ :: _, h => .cons (ToD.of h.1) (RepL.toD h.2)
  | [], _ :: _, h => h.elim
  | _ :: _, [], h => h.elim
instance : ToD (List α) := ⟨fun l => .lst (l.map ToD.dat), fun ⟨p, vs, h1, h2, h3⟩ => by rw [h1]; exact .lst h2 h3.toD⟩
instance : ToD (Tp α) := ⟨fun l => .tup (l.l.map ToD.dat), fun ⟨p, vs, h1, h2, h3⟩ => by rw [h1]; exact .tup h2 h3.toD⟩
instance : ToD (α × β) := ⟨fun x => .tup [ToD.dat x.1, ToD.dat x.2], fun ⟨p, a, b, h1, h2, h3, h4⟩ => by rw [h1]; exact .tup h2 (.cons (ToD.of h3) (.cons (ToD.of h4) .nil))⟩
instance : ToD (T3 α β γ) := ⟨fun x => .tup [ToD.dat x.a, ToD.dat x.b, ToD.dat x.c], fun ⟨p, a, b, c, h1, h2, h3, h4, h5⟩ => by rw [h1]; exact .tup h2 (.cons (ToD.of h3) (.cons (ToD.of h4) (.cons (ToD.of h5) .nil)))⟩
instance : ToD (Option α) := ⟨fun x => match x with | none => .non | some y => ToD.dat y, fun {K S v x} h => by
  cases x with
  | none => rw [show _ = V.non from h]; exact .non
  | some y => exact ToD.of (x := y) h⟩
end
structure H2 (α β : Type) where
  a : α
  b : β
  deriving DecidableEq
section
variable {α β γ : Type} [Py α] [Py β] [Py γ]
instance : Py (H2 α β) := ⟨fun K S v x => ∃ p a b, v = .ref p ∧ S p = some (.lst [a, b]) ∧ Py.rep K S a x.a ∧ Py.rep K S b x.b, fun e ⟨p, a, b, h1, h2, h3, h4⟩ => ⟨p, a, b, h1, e _ _ h2, Py.mono e h3, Py.mono e h4⟩⟩
instance [Dt α] [Dt β] : Dt (H2 α β) := ⟨fun x => .list [Dt.dat x.a, Dt.dat x.b], fun e ⟨p, a, b, h1, h2, h3, h4⟩ => by rw [h1]; exact .lst (SqL.of (e _ _ h2)) (.cons (Dt.dp e h3) (.cons (Dt.dp e h4) .nil)),
  fun x => by simp [PyData.canLay0, PyData.canLayAll0, Dt.lay], max (Dt.dep α) (Dt.dep β) + 1, fun x => by
    have h1 := Dt.dle x.a
    have h2 := Dt.dle x.b
    simp only [PyData.depth, PyData.depthAll]
    omega, fun x y => by
    simp only [PyData.eqv, PyData.eqvAll, Bool.and_eq_true, Dt.eq, and_true]
    cases x; cases y
    simp⟩
end
section
variable {K : Fg} {B S0 S1 S S' D : Hp} {σ : L2.St} {H H' : Hp} {F : Nat → List Addr} {G G' G1 G2 G3 : List Sl} {ta tb tc te : TE} {i j : Nat} {t u : TS} {E : Ends}
def Dat.tyn : Dat → String
  | .non => "NoneType"
  | .int _ => "int"
  | .bl _ => "bool"
  | .str _ => "str"
  | .tup _ => "tuple"
  | .lst _ => "list"
theorem DRep.ty {v : V} {d : Dat} (e : Same S H) (h : DRep K S v d) : TyX K H v (.type d.tyn) := by
  cases h with
  | non => exact .base .non
  | int i => exact .base (.int i)
  | bl i => exact .base (.bl i)
  | str i => exact .base (.str i)
  | tup a _ => exact tyT e a
  | lst a _ => exact .base (.lst (e _ _ a))
theorem EvX.dat {α : Type} [Py α] [ToD α] {x : α} (h : EvX K te G x G1) : EvX K te G (ToD.dat x) G1 := fun B S0 S σ H F k Q q => h B S0 S σ H F k Q fun v S' H' e k' r => q v S' H' e k' (ToD.of r)
def Dat.isN : Dat → Bool
  | .non => true
  | _ => false
end
abbrev spSame (K : Fg) (k : Nat) : Sp := spF K (fun (_ : Dat × Dat × Unit) => true) (fun a => a.1 = a.2.1 ∧ DLe k a.1)
end GL
namespace GL
open PySem PySem.Spec PyProof.Rows L2
def del (S : Hp) (p : Addr) : Hp := fun q => if q = p then none else S q
theorem del_ne {S : Hp} {p q : Addr} (h : q ≠ p) : del S p q = S q := if_neg h
class NoD (α : Type) [Py α] : Prop where
  go : ∀ {K : Fg} {S : Hp} {p : Addr} {kvs : List (Key × V)} {v : V} {x : α}, S p = some (.dK kvs) → Py.rep K S v x → Py.rep K (del S p) v x
theorem noT {K : Fg} {S : Hp} {p a : Addr} {kvs : List (Key × V)} {vs : List V} (h : S p = some (.dK kvs)) (r : SqT K S a vs) : SqT K (del S p) a vs := by
  rcases r with (r | ⟨o, r⟩) | r
  · exact .inl (.inl (by rw [del_ne (fun e => by rw [e, h] at r; cases r)]; exact r))
  · exact .inl (.inr ⟨o, by rw [del_ne (fun e => by rw [e, h] at r; cases r)]; exact r⟩)
  · exact .inr r
section
variable {α β γ : Type} [Py α] [Py β] [Py γ]
theorem noL [NoD α] {K : Fg} {S : Hp} {p : Addr} {kvs : List (Key × V)} (h : S p = some (.dK kvs)) : ∀ {vs : List V} {xs : List α}, RepL K S vs xs → RepL K (del S p) vs xs
  | [], [], _ => True.intro
  | _ :: _, _ :: _, r => ⟨NoD.go h r.1, noL h r.2⟩
  | [], _ :: _, r => r.elim
  | _ :: _, [], r => r.elim
instance : NoD Int := ⟨fun _ h => h⟩
instance : NoD Bool := ⟨fun _ h => h⟩
instance : NoD Str := ⟨fun _ h => h⟩
instance : NoD Unit := ⟨fun _ h => h⟩
instance [NoD α] : NoD (List α) := ⟨fun h ⟨a, vs, h1, h2, h3⟩ => ⟨a, vs, h1, by rw [del_ne (fun e => by rw [e, h] at h2; cases h2)]; exact h2, noL h h3⟩⟩
instance [NoD α] : NoD (Tp α) := ⟨fun h ⟨a, vs, h1, h2, h3⟩ => ⟨a, vs, h1, noT h h2, noL h h3⟩⟩
instance [NoD α] [NoD β] : NoD (α × β) := ⟨fun h ⟨a, x, y, h1, h2, h3, h4⟩ => ⟨a, x, y, h1, noT h h2, NoD.go h h3, NoD.go h h4⟩⟩
instance [NoD α] [NoD β] [NoD γ] : NoD (T3 α β γ) := ⟨fun h ⟨a, x, y, z, h1, h2, h3, h4, h5⟩ => ⟨a, x, y, z, h1, noT h h2, NoD.go h h3, NoD.go h h4, NoD.go h h5⟩⟩
instance [NoD α] : NoD (Option α) := ⟨fun {K S p kvs v x} h r => by
  cases x with
  | none => exact r
  | some y => exact NoD.go (x := y) h r⟩
end
section
variable {K : Fg} {B S0 S1 S S' D : Hp} {σ : L2.St} {H H' : Hp} {F : Nat → List Addr} {G G' G1 G2 G3 : List Sl} {ta tb tc te : TE} {i j : Nat} {t u : TS} {E : Ends}
def EvV {α : Type} [PyA α] (K : Fg) (ta : TA) (G : List Sl) (x : α) : Prop :=
  ∀ B S0 S σ H F, Kn K B S0 S σ H F G → ∀ Q : List V → Hp → Prop, (∀ vs, PyA.rep K S vs x → Q vs H) → ta σ H Q
end
end GL
namespace L2
open PySem PySem.Spec PyProof.Rows
section
variable {X : Cx}
def tSortSetT (K : PySem.W.Frag) (ta : TE) : TE := fun σ H Q => ta σ H fun x H1 => ∃ (l : Addr) (ns : List Int), x = V.ref l ∧ SqT K H1 l (ns.map V.int) ∧ ns.length < 64 ∧
  ∀ (ms : List Int) (p : Addr), ms.Pairwise (· < ·) → (∀ k : Int, k ∈ ms ↔ k ∈ ns) → H1 p = none → Q (.ref p) (upd H1 p (.lst (ms.map V.int)))
end
end L2
namespace GL
open PySem PySem.Spec PyProof.Rows L2
structure T5 (α β γ δ ε : Type) where
  a : α
  b : β
  c : γ
  d : δ
  e : ε
  deriving DecidableEq
section
variable {α β γ δ ε : Type} [Py α] [Py β] [Py γ] [Py δ] [Py ε]
instance : Py (T5 α β γ δ ε) := ⟨fun K S v x => ∃ p a b c d e, v = .ref p ∧ SqT K S p [a, b, c, d, e] ∧ Py.rep K S a x.a ∧ Py.rep K S b x.b ∧ Py.rep K S c x.c ∧ Py.rep K S d x.d ∧ Py.rep K S e x.e,
  fun z ⟨p, a, b, c, d, e, h1, h2, h3, h4, h5, h6, h7⟩ => ⟨p, a, b, c, d, e, h1, seqT z h2, Py.mono z h3, Py.mono z h4, Py.mono z h5, Py.mono z h6, Py.mono z h7⟩⟩
instance [ToD α] [ToD β] [ToD γ] [ToD δ] [ToD ε] : ToD (T5 α β γ δ ε) := ⟨fun x => .tup [ToD.dat x.a, ToD.dat x.b, ToD.dat x.c, ToD.dat x.d, ToD.dat x.e], fun ⟨p, a, b, c, d, e, h1, h2, h3, h4, h5, h6, h7⟩ => by
  rw [h1]; exact .tup h2 (.cons (ToD.of h3) (.cons (ToD.of h4) (.cons (ToD.of h5) (.cons (ToD.of h6) (.cons (ToD.of h7) .nil)))))⟩
class NoL (α : Type) [Py α] : Prop where
  go : ∀ {K : Fg} {S : Hp} {p : Addr} {us : List V} {v : V} {x : α}, S p = some (.lst us) → Py.rep K S v x → Py.rep K (del S p) v x
end
theorem nlT {K : Fg} {S : Hp} {p a : Addr} {us : List V} {vs : List V} (h : S p = some (.lst us)) (r : SqT K S a vs) : SqT K (del S p) a vs := by
  rcases r with (r | ⟨o, r⟩) | r
  · exact .inl (.inl (by rw [del_ne (fun e => by rw [e, h] at r; cases r)]; exact r))
  · exact .inl (.inr ⟨o, by rw [del_ne (fun e => by rw [e, h] at r; cases r)]; exact r⟩)
  · exact .inr r
section
variable {α β γ δ ε : Type} [Py α] [Py β] [Py γ] [Py δ] [Py ε]
theorem nlAll [NoL α] {K : Fg} {S : Hp} {p : Addr} {us : List V} (h : S p = some (.lst us)) : ∀ {vs : List V} {xs : List α}, RepL K S vs xs → RepL K (del S p) vs xs
  | [], [], _ => True.intro
  | _ :: _, _ :: _, r => ⟨NoL.go h r.1, nlAll h r.2⟩
  | [], _ :: _, r => r.elim
  | _ :: _, [], r => r.elim
instance : NoL Int := ⟨fun _ h => h⟩
instance : NoL Bool := ⟨fun _ h => h⟩
instance : NoL Str := ⟨fun _ h => h⟩
instance : NoL Unit := ⟨fun _ h => h⟩
instance [NoL α] : NoL (Tp α) := ⟨fun h ⟨a, vs, h1, h2, h3⟩ => ⟨a, vs, h1, nlT h h2, nlAll h h3⟩⟩
instance [NoL α] [NoL β] : NoL (α × β) := ⟨fun h ⟨a, x, y, h1, h2, h3, h4⟩ => ⟨a, x, y, h1, nlT h h2, NoL.go h h3, NoL.go h h4⟩⟩
instance [NoL α] [NoL β] [NoL γ] : NoL (T3 α β γ) := ⟨fun h ⟨a, x, y, z, h1, h2, h3, h4, h5⟩ => ⟨a, x, y, z, h1, nlT h h2, NoL.go h h3, NoL.go h h4, NoL.go h h5⟩⟩
instance [NoL α] [NoL β] [NoL γ] [NoL δ] [NoL ε] : NoL (T5 α β γ δ ε) := ⟨fun h ⟨p, a, b, c, d, e, h1, h2, h3, h4, h5, h6, h7⟩ => ⟨p, a, b, c, d, e, h1, nlT h h2, NoL.go h h3, NoL.go h h4, NoL.go h h5, NoL.go h h6, NoL.go h h7⟩⟩
instance [NoL α] : NoL (Option α) := ⟨fun {K S p us v x} h r => by
  cases x with
  | none => exact r
  | some y => exact NoL.go (x := y) h r⟩
end
inductive WRow
  | set (p v : Int)
  | add (p q : Int)
  | jump (p r : Int)
  | say (p : Int)
  | take (p : Int)
  | fin
  deriving DecidableEq
instance : Inhabited WRow := ⟨.fin⟩
def sW (s : String) : Str := Str.ofString s
namespace WRow
def word : WRow → Str
  | .set _ _ => Str.ofString "set"
  | .add _ _ => Str.ofString "add"
  | .jump _ _ => Str.ofString "jump"
  | .say _ => Str.ofString "say"
  | .take _ => Str.ofString "take"
  | .fin => Str.ofString "end"
def nums : WRow → List Int
  | .set p v => [p, v]
  | .add p q => [p, q]
  | .jump p r => [p, r]
  | .say p => [p]
  | .take p => [p]
  | .fin => []
def vals (r : WRow) : List V := .str r.word :: r.nums.map V.int
def a1 (r : WRow) : Int := r.nums.getD 0 0
def a2 (r : WRow) : Int := r.nums.getD 1 0
def dat (r : WRow) : PyData := .tuple (.str r.word :: r.nums.map PyData.int)
end WRow
instance : Py WRow := ⟨fun K S v r => ∃ p, v = .ref p ∧ SqT K S p r.vals, fun e ⟨p, h1, h2⟩ => ⟨p, h1, seqT e h2⟩⟩
instance : NoL WRow := ⟨fun h ⟨p, h1, h2⟩ => ⟨p, h1, nlT h h2⟩⟩
section
variable {K : Fg} {B S0 S1 S S' D : Hp} {σ : L2.St} {H H' : Hp} {F : Nat → List Addr} {G G' G1 G2 G3 G4 G5 : List Sl} {ta tb tc td te : TE} {i j l : Nat} {t u : TS} {E : Ends}
section
variable {α β γ δ ε : Type} [Py α] [Py β] [Py γ] [Py δ] [Py ε]
variable {w : T5 α β γ δ ε}
end
variable {r : WRow}
end
end GL
namespace GL
open PySem PySem.Spec PyProof.Rows L2
structure T4 (α β γ δ : Type) where
  a : α
  b : β
  c : γ
  d : δ
  deriving DecidableEq
section
variable {α β γ δ ε : Type} [Py α] [Py β] [Py γ] [Py δ] [Py ε]
instance : Py (T4 α β γ δ) := ⟨fun K S v x => ∃ p a b c d, v = .ref p ∧ SqT K S p [a, b, c, d] ∧ Py.rep K S a x.a ∧ Py.rep K S b x.b ∧ Py.rep K S c x.c ∧ Py.rep K S d x.d,
  fun z ⟨p, a, b, c, d, h1, h2, h3, h4, h5, h6⟩ => ⟨p, a, b, c, d, h1, seqT z h2, Py.mono z h3, Py.mono z h4, Py.mono z h5, Py.mono z h6⟩⟩
instance (priority := 500) [Dq α] [Dq β] [Dq γ] [Dq δ] : Dq (T4 α β γ δ) := ⟨fun x => .tuple [Dq.dat x.a, Dq.dat x.b, Dq.dat x.c, Dq.dat x.d], fun x => Dq.ok x.a ∧ Dq.ok x.b ∧ Dq.ok x.c ∧ Dq.ok x.d, fun e ⟨p, a, b, c, d, h1, h2, h3, h4, h5, h6⟩ => by rw [h1]; exact .tup (seqT e h2) (.cons (Dq.dp e h3) (.cons (Dq.dp e h4) (.cons (Dq.dp e h5) (.cons (Dq.dp e h6) .nil)))),
  fun x h => by simp [PyData.canLay0, PyData.canLayAll0, Dq.lay _ h.1, Dq.lay _ h.2.1, Dq.lay _ h.2.2.1, Dq.lay _ h.2.2.2], max (Dq.dep α) (max (Dq.dep β) (max (Dq.dep γ) (Dq.dep δ))) + 1, fun x => by
    have h1 := Dq.dle x.a
    have h2 := Dq.dle x.b
    have h3 := Dq.dle x.c
    have h4 := Dq.dle x.d
    simp only [PyData.depth, PyData.depthAll]
    omega, fun x y => by
    simp only [PyData.eqv, PyData.eqvAll, Bool.and_eq_true, Dq.eq, and_true]
    cases x; cases y
    simp⟩
variable {K : Fg} {G G1 G2 G3 G4 : List Sl} {ta tb tc td : TE}
end
section
variable {K : Fg} {G G1 G2 : List Sl} {ta tb : TE}
end
end GL
namespace GL
open PySem PySem.Spec PyProof.Rows L2
namespace Dct
variable {α : Type}
theorem find_map (k : Int) (x : α) (j : Int) : ∀ l : List (Int × α), ((l.map fun kv => if kv.1 = k then (kv.1, x) else kv).find? fun kv => decide (kv.1 = j)).map (·.2) = ((l.find? fun kv => decide (kv.1 = j)).map (·.2)).map fun y => if j = k then x else y
  | [] => rfl
  | p :: l => by
    rw [List.map_cons, List.find?_cons, List.find?_cons]
    by_cases h1 : p.1 = j
    · by_cases h2 : p.1 = k
      · have : j = k := h1.symm.trans h2
        subst this
        simp [h1]
      · have : ¬ j = k := fun e => h2 (h1.trans e)
        simp [h1, this]
    · have ih := find_map k x j l
      by_cases h2 : p.1 = k
      · simp only [h2, if_true]
        have h3 : ¬ k = j := fun e => h1 (h2.trans e)
        simp only [decide_eq_false h3]
        exact ih
      · simp only [h2, if_false, decide_eq_false h1]
        exact ih
theorem any_find (k : Int) : ∀ l : List (Int × α), (l.any fun kv => decide (kv.1 = k)) = ((l.find? fun kv => decide (kv.1 = k)).map (·.2)).isSome
  | [] => rfl
  | p :: l => by
    rw [List.any_cons, List.find?_cons, any_find k l]
    by_cases h : p.1 = k
    · simp [h]
    · simp [h]
theorem find_snoc (k : Int) (x : α) (j : Int) : ∀ l : List (Int × α), ((l ++ [(k, x)]).find? fun kv => decide (kv.1 = j)).map (·.2) = match (l.find? fun kv => decide (kv.1 = j)).map (·.2) with | some y => some y | none => if j = k then some x else none
  | [] => by
    by_cases h : k = j
    · subst h; simp
    · have : ¬ j = k := fun e => h e.symm
      simp [h, this]
  | p :: l => by
    rw [List.cons_append, List.find?_cons, List.find?_cons]
    by_cases h : p.1 = j
    · simp [h]
    · simp only [decide_eq_false h]
      exact find_snoc k x j l
theorem get?_put (d : Dct α) (k : Int) (x : α) (j : Int) : (d.put k x).get? j = if j = k then some x else d.get? j := by
  unfold get? put
  by_cases h : (d.l.any fun kv => decide (kv.1 = k)) = true
  · simp only [h, if_true]
    rw [find_map]
    by_cases e : j = k
    · subst e
      rw [any_find] at h
      cases q : (d.l.find? fun kv => decide (kv.1 = j)).map (·.2) with
      | none => rw [q] at h; cases h
      | some y => simp
    · simp only [e, if_false]
      cases (d.l.find? fun kv => decide (kv.1 = j)).map (·.2) <;> rfl
  · simp only [h, if_false, Bool.false_eq_true]
    rw [find_snoc]
    by_cases e : j = k
    · subst e
      rw [any_find] at h
      cases q : (d.l.find? fun kv => decide (kv.1 = j)).map (·.2) with
      | none => simp
      | some y => rw [q] at h; exact absurd rfl h
    · simp only [e, if_false]
      cases (d.l.find? fun kv => decide (kv.1 = j)).map (·.2) <;> rfl
theorem get?_del (d : Dct α) (k j : Int) : (d.del k).get? j = if j = k then none else d.get? j := by
  unfold get? del
  show ((d.l.filter fun kv => decide (kv.1 ≠ k)).find? fun kv => decide (kv.1 = j)).map (·.2) = _
  induction d.l with
  | nil => simp
  | cons p l ih =>
    rw [List.filter_cons]
    by_cases h : p.1 = k
    · rw [if_neg (by simp [h]), ih, List.find?_cons]
      by_cases e : j = k
      · simp [e]
      · have : ¬ p.1 = j := fun q => e (q.symm.trans h)
        simp [e, this]
    · rw [if_pos (by simp [h]), List.find?_cons, List.find?_cons]
      by_cases e : p.1 = j
      · have : ¬ j = k := fun q => h (e.trans q)
        simp [e, this]
      · simp only [decide_eq_false e]
        exact ih
def Ok (d : Dct α) (m : Int) : Prop := (d.l.map (·.1)).Nodup ∧ ∀ k ∈ d.l.map (·.1), 0 ≤ k ∧ k < m
theorem Ok.emp {m : Int} : Ok (emp : Dct α) m := ⟨List.nodup_nil, fun _ h => by simp [Dct.emp] at h⟩
theorem keys_put (d : Dct α) (k : Int) (x : α) : (d.put k x).l.map (·.1) = if (d.l.any fun kv => decide (kv.1 = k)) = true then d.l.map (·.1) else d.l.map (·.1) ++ [k] := by
  unfold put
  by_cases h : (d.l.any fun kv => decide (kv.1 = k)) = true
  · simp only [h, if_true]
    rw [List.map_map]
    apply List.map_congr_left
    intro p _
    show (if p.1 = k then (p.1, x) else p).1 = p.1
    split <;> rfl
  · simp only [h, if_false, Bool.false_eq_true]
    rw [List.map_append]
    rfl
theorem Ok.put {d : Dct α} {m : Int} (h : d.Ok m) {k : Int} (x : α) (hk : 0 ≤ k ∧ k < m) : (d.put k x).Ok m := by
  unfold Ok
  rw [keys_put]
  by_cases q : (d.l.any fun kv => decide (kv.1 = k)) = true
  · rw [if_pos q]
    exact h
  · rw [if_neg q]
    refine ⟨?_, fun j hj => ?_⟩
    · refine L2.nd_snoc h.1 fun hm => q ?_
      obtain ⟨p, hp, e⟩ := List.mem_map.mp hm
      exact List.any_eq_true.mpr ⟨p, hp, decide_eq_true e⟩
    · rcases List.mem_append.mp hj with z | z
      · exact h.2 j z
      · rw [List.mem_singleton.mp z]
        exact hk
theorem Ok.del {d : Dct α} {m : Int} (h : d.Ok m) (k : Int) : (d.del k).Ok m := by
  refine ⟨?_, fun j hj => ?_⟩
  · show ((d.l.filter fun kv => decide (kv.1 ≠ k)).map (·.1)).Nodup
    exact (List.Sublist.map _ (List.filter_sublist)).nodup h.1
  · obtain ⟨p, hp, e⟩ := List.mem_map.mp hj
    exact h.2 j (List.mem_map.mpr ⟨p, (List.mem_filter.mp hp).1, e⟩)
theorem nodup_le : ∀ (n : Nat) (l : List Int), l.Nodup → (∀ k ∈ l, 0 ≤ k ∧ k < (n : Int)) → l.length ≤ n
  | 0, l, _, h => by
    cases l with
    | nil => exact Nat.le_refl _
    | cons x l => exact absurd (h x List.mem_cons_self) (by omega)
  | n + 1, l, hn, h => by
    have h1 := nodup_le n (l.filter fun k => decide (k ≠ (n : Int))) (List.filter_sublist.nodup hn) fun k hk => by
      obtain ⟨a, b⟩ := List.mem_filter.mp hk
      have := h k a
      have : k ≠ (n : Int) := of_decide_eq_true b
      omega
    have h2 : l.length ≤ (l.filter fun k => decide (k ≠ (n : Int))).length + 1 := by
      clear h h1
      induction l with
      | nil => exact Nat.zero_le _
      | cons x l ih =>
        obtain ⟨q1, q2⟩ := List.nodup_cons.mp hn
        rw [List.filter_cons]
        by_cases e : x = (n : Int)
        · rw [if_neg (by simp [e])]
          have : l.filter (fun k => decide (k ≠ (n : Int))) = l := by
            apply List.filter_eq_self.mpr
            intro k hk
            exact decide_eq_true fun z => q1 (e.trans z.symm ▸ hk)
          rw [this, List.length_cons]
          exact Nat.le_refl _
        · rw [if_pos (by simp [e]), List.length_cons, List.length_cons]
          have := ih q2
          omega
    omega
theorem Ok.len {d : Dct α} {n : Nat} (h : d.Ok (n : Int)) : d.l.length ≤ n := by
  have := nodup_le n (d.l.map (·.1)) h.1 h.2
  rw [List.length_map] at this
  exact this
theorem Ok.small {d : Dct α} (h : d.Ok 1000) : d.l.length < sizeLine := Nat.lt_of_le_of_lt (Ok.len (n := 1000) h) (by decide)
end Dct
theorem dix_put {α : Type} [Inhabited α] (d : Dct α) (k : Int) (x : α) (j : Int) : dix (d.put k x) j = if j = k then x else dix d j := by
  unfold dix
  rw [Dct.get?_put]
  split <;> rfl
theorem dix_of {α : Type} [Inhabited α] {d : Dct α} {k : Int} {x : α} (h : d.get? k = some x) : dix d k = x := by
  unfold dix
  rw [h]
  rfl
theorem mem_rng {a b x : Int} : x ∈ rng a b ↔ a ≤ x ∧ x < b := by
  unfold rng
  rw [List.mem_map]
  constructor
  · rintro ⟨i, hi, rfl⟩
    rw [List.mem_range] at hi
    omega
  · intro h
    refine ⟨(x - a).toNat, List.mem_range.mpr (by omega), by omega⟩
theorem len_rng (a b : Int) : (rng a b).length = (b - a).toNat := by
  unfold rng
  rw [List.length_map, List.length_range]
theorem rng_get {a b : Int} {i : Nat} (h : i < (b - a).toNat) : (rng a b)[i]? = some (a + (i : Int)) := by
  unfold rng
  rw [List.getElem?_map, List.getElem?_range h]
  rfl
theorem rng_succ {a b : Int} (h : a ≤ b) : rng a (b + 1) = rng a b ++ [b] := by
  unfold rng
  rw [show (b + 1 - a).toNat = (b - a).toNat + 1 by omega, List.range_succ, List.map_append]
  congr 1
  rw [List.map_cons, List.map_nil]
  congr 1
  omega
theorem rng_nil {a b : Int} (h : b ≤ a) : rng a b = [] := by
  unfold rng
  rw [show (b - a).toNat = 0 by omega]
  rfl
theorem rng_sorted (a b : Int) : (rng a b).Pairwise (· < ·) := by
  unfold rng
  rw [List.pairwise_map]
  exact List.pairwise_lt_range.imp fun h => by omega
theorem rng_nodup (a b : Int) : (rng a b).Nodup := by
  have h := (rng_sorted a b)
  exact h.imp fun q => by omega
theorem rng_pre {a b x : Int} {pre post : List Int} (h : pre ++ x :: post = rng a b) : pre = rng a x ∧ x = a + pre.length ∧ a ≤ x ∧ x < b := by
  have hx : (rng a b)[pre.length]? = some x := by
    rw [← h, List.getElem?_append_right (Nat.le_refl _), Nat.sub_self]
    rfl
  have hl : pre.length < (b - a).toNat := by
    have := congrArg List.length h
    rw [List.length_append, List.length_cons, len_rng] at this
    omega
  rw [rng_get hl] at hx
  have ex : a + (pre.length : Int) = x := Option.some.inj hx
  refine ⟨?_, ex.symm, by omega, by omega⟩
  apply List.ext_getElem?
  intro i
  by_cases hi : i < pre.length
  · have : (rng a b)[i]? = pre[i]? := by rw [← h, List.getElem?_append_left hi]
    rw [← this, rng_get (by omega), rng_get (by omega)]
  · rw [List.getElem?_eq_none (by omega), List.getElem?_eq_none (by rw [len_rng]; omega)]
theorem enumI_snoc {α : Type} (xs : List α) (x : α) : enumI (xs ++ [x]) = enumI xs ++ [((xs.length : Int), x)] := by
  unfold enumI
  rw [List.zipIdx_append, List.map_append]
  simp
theorem mem_enumI {α : Type} {xs : List α} {p : Int × α} : p ∈ enumI xs ↔ 0 ≤ p.1 ∧ xs[p.1.toNat]? = some p.2 := by
  unfold enumI
  rw [List.mem_map]
  constructor
  · rintro ⟨q, hq, rfl⟩
    have h := List.mem_zipIdx_iff_getElem?.mp hq
    exact ⟨by simp, by simpa using h⟩
  · rintro ⟨h0, h⟩
    refine ⟨(p.2, p.1.toNat), List.mem_zipIdx_iff_getElem?.mpr (by simpa using h), ?_⟩
    apply Prod.ext
    · show ((p.1.toNat : Nat) : Int) = p.1
      omega
    · rfl
theorem len_enumI {α : Type} (xs : List α) : (enumI xs).length = xs.length := by
  unfold enumI
  rw [List.length_map, List.length_zipIdx]
instance : Inhabited (Tp Int) := ⟨⟨[]⟩⟩
structure TrOk (trace : List (Tp Int)) : Prop where
  len : trace.length ≤ 100000
  mem : ∀ t ∈ trace, ∀ s ∈ t.l, 0 ≤ s ∧ s < 1000
theorem ix_mem {α : Type} [Inhabited α] {xs : List α} {i : Int} (h0 : 0 ≤ i) (h : i < xs.length) : ix xs i ∈ xs := List.mem_of_getElem? (ix_at h0 h)
def writtenStep (trace : List (Tp Int)) (found : Dct Int) (tick : Int) : Dct Int := (ix trace tick).l.foldl (fun f x => f.put x tick) found
def writtenIn (trace : List (Tp Int)) (start stop : Int) : Dct Int := (rng start (min stop trace.length)).foldl (writtenStep trace) Dct.emp
theorem put_ok {l : List Int} {tick m : Int} : ∀ {d : Dct Int}, d.Ok m → (∀ s ∈ l, 0 ≤ s ∧ s < m) → (l.foldl (fun f x => f.put x tick) d).Ok m := by
  induction l with
  | nil => intro d h _; exact h
  | cons x l ih =>
    intro d h hl
    exact ih (h.put tick (hl x List.mem_cons_self)) fun s hs => hl s (List.mem_cons_of_mem _ hs)
theorem step_ok {trace : List (Tp Int)} (ht : TrOk trace) {l : List Int} : ∀ {d : Dct Int}, d.Ok 1000 → (∀ t ∈ l, 0 ≤ t ∧ t < trace.length) → (l.foldl (writtenStep trace) d).Ok 1000 := by
  induction l with
  | nil => intro d h _; exact h
  | cons x l ih =>
    intro d h hl
    obtain ⟨h0, h1⟩ := hl x List.mem_cons_self
    exact ih (put_ok h (ht.mem _ (ix_mem h0 h1))) fun s hs => hl s (List.mem_cons_of_mem _ hs)
theorem wr_size {trace : List (Tp Int)} {start stop tick sheet : Int} {pre0 post0 pre1 post1 : List Int} {found s0 s1 : Dct Int} (ht : TrOk trace) (h0 : 0 ≤ start) (hf : found = Dct.emp) (ex0 : pre0 ++ tick :: post0 = rng start (min stop trace.length)) (hs0 : s0 = pre0.foldl (writtenStep trace) found)
    (ex1 : pre1 ++ sheet :: post1 = (ix trace tick).l) (hs1 : s1 = pre1.foldl (fun f x => f.put x tick) s0) : s1.l.length < sizeLine := by
  obtain ⟨e1, _, a1, a2⟩ := rng_pre ex0
  subst hs1 hs0 hf
  refine (put_ok (step_ok ht Dct.Ok.emp fun t hm => ?_) fun s hs => ?_ : Dct.Ok _ 1000).small
  · rw [e1, mem_rng] at hm
    omega
  · exact ht.mem (ix trace tick) (ix_mem (by omega) (by omega)) s (by rw [← ex1]; exact List.mem_append_left _ hs)
theorem rng_at {trace : List (Tp Int)} {start stop tick : Int} {pre0 post0 : List Int} (h0 : 0 ≤ start) (ex0 : pre0 ++ tick :: post0 = rng start (min stop trace.length)) : 0 ≤ tick ∧ tick < trace.length := by
  obtain ⟨_, _, a1, a2⟩ := rng_pre ex0
  omega
def lastN (trace : List (Tp Int)) : Nat → Int → Option Int
  | 0, _ => none
  | n + 1, s => if s ∈ (trace.getD n ⟨[]⟩).l then some (n : Int) else lastN trace n s
theorem get?_puts (tick : Int) (s : Int) : ∀ (l : List Int) (d : Dct Int), (l.foldl (fun f x => f.put x tick) d).get? s = if s ∈ l then some tick else d.get? s
  | [], d => by simp
  | x :: l, d => by
    rw [List.foldl_cons, get?_puts tick s l, Dct.get?_put]
    by_cases h1 : s ∈ l
    · simp [h1]
    · by_cases h2 : s = x
      · simp [h2]
      · simp [h1, h2]
theorem lastN_more (trace : List (Tp Int)) (s : Int) : ∀ n, trace.length ≤ n → lastN trace n s = lastN trace trace.length s := by
  intro n h
  induction n with
  | zero => rw [show trace.length = 0 by omega]
  | succ n ih =>
    by_cases e : trace.length = n + 1
    · rw [e]
    · rw [lastN, if_neg, ih (by omega)]
      rw [List.getD_eq_getElem?_getD, List.getElem?_eq_none (by omega)]
      simp
theorem written_last (trace : List (Tp Int)) (s : Int) : ∀ n : Nat, n ≤ trace.length → ((rng 0 (n : Int)).foldl (writtenStep trace) Dct.emp).get? s = lastN trace n s
  | 0, _ => by rw [rng_nil (by omega)]; rfl
  | n + 1, h => by
    rw [show ((n + 1 : Nat) : Int) = (n : Int) + 1 by omega, rng_succ (by omega), List.foldl_append, List.foldl_cons, List.foldl_nil]
    show ((ix trace (n : Int)).l.foldl (fun (f : Dct Int) x => f.put x (n : Int)) _).get? s = _
    rw [get?_puts, written_last trace s n (by omega), lastN]
    have : ix trace (n : Int) = trace.getD n ⟨[]⟩ := by unfold ix; rfl
    rw [this]
theorem writtenIn_get (trace : List (Tp Int)) (stop s : Int) : (writtenIn trace 0 stop).get? s = lastN trace stop.toNat s := by
  unfold writtenIn
  by_cases h : stop < 0
  · rw [rng_nil (by omega), show stop.toNat = 0 by omega]
    rfl
  · by_cases h2 : stop ≤ trace.length
    · rw [Int.min_eq_left h2]
      have e : stop = ((stop.toNat : Nat) : Int) := by omega
      rw [e]
      rw [written_last trace s stop.toNat (by omega)]
      rfl
    · rw [Int.min_eq_right (by omega), written_last trace s trace.length (Nat.le_refl _), lastN_more trace s stop.toNat (by omega)]
end GL
namespace GL
open PySem PySem.Spec PyProof.Rows L2
theorem ix_all {α : Type} [Inhabited α] {P : α → Prop} {xs : List α} {i : Int} (h : ∀ y ∈ xs, P y) (hi : 0 ≤ i ∧ i < xs.length) : P (ix xs i) := h _ (ix_mem hi.1 hi.2)
theorem ix_2 {i a b : Int} (h : 0 ≤ i ∧ i < 2) : 0 ≤ i ∧ i < ([a, b] : List Int).length := h
theorem ix3 {i a b c : Int} (h : 0 ≤ i ∧ i < 3) : 0 ≤ i ∧ i < ([a, b, c] : List Int).length := h
theorem ix_5 {i a b c d e : Int} (h : 0 ≤ i ∧ i < 5) : 0 ≤ i ∧ i < ([a, b, c, d, e] : List Int).length := h
theorem ix_6 {i a b c d e f : Int} (h : 0 ≤ i ∧ i < 6) : 0 ≤ i ∧ i < ([a, b, c, d, e, f] : List Int).length := h
theorem ix_7 {i a b c d e f g : Int} (h : 0 ≤ i ∧ i < 7) : 0 ≤ i ∧ i < ([a, b, c, d, e, f, g] : List Int).length := h
structure SzOk (y : T3 Int Int Int) : Prop where
  n0 : 1 ≤ y.a
  n1 : y.a ≤ 12
  b0 : 1 ≤ y.b
  b1 : y.b ≤ 6
  s0 : 0 ≤ y.c
  s1 : y.c ≤ 12
theorem sz_i (z : Spr) : 4 ≤ ix ([4, 8, 12] : List Int) (lawCup z 3).1 ∧ ix ([4, 8, 12] : List Int) (lawCup z 3).1 ≤ 12 := ix_all (P := fun y => 4 ≤ y ∧ y ≤ 12) (by decide) (ix3 (cup_bd z (by decide)))
theorem sz_m {z : Spr} : 0 < ix ([4, 8, 12] : List Int) (lawCup z 3).1 ∧ ix ([4, 8, 12] : List Int) (lawCup z 3).1 < 1073741824 := by
  have := sz_i z
  omega
theorem sz_n {z : Spr} {n : Int} (h : n = 1 + (lawCup (lawCup z 3).2 (ix [4, 8, 12] (lawCup z 3).1)).1) : 1 ≤ n ∧ n ≤ 12 := by
  have h1 := sz_i z
  have h2 := cup_bd (lawCup z 3).2 (m := ix [4, 8, 12] (lawCup z 3).1) (by omega)
  omega
theorem sz_b {z : Spr} {b : Int} (h : b = ix [1, 1, 2, 3, 1 + (lawCup z 6).1] (lawCup (lawCup z 6).2 5).1) : 1 ≤ b ∧ b ≤ 6 := by
  have h1 := cup_bd z (m := 6) (by decide)
  rw [h]
  exact ix_all (P := fun y => 1 ≤ y ∧ y ≤ 6) (by simp; omega) (ix_5 (cup_bd _ (by decide)))
theorem sz_ok {z : Spr} {n b : Int} (hn : 1 ≤ n ∧ n ≤ 12) (hb : 1 ≤ b ∧ b ≤ 6) : SzOk ⟨n, b, ix [0, 0, 1, 2, 3, n, (lawCup z 13).1] (lawCup (lawCup z 13).2 7).1⟩ := by
  have h1 := cup_bd z (m := 13) (by decide)
  have h2 : 0 ≤ ix [0, 0, 1, 2, 3, n, (lawCup z 13).1] (lawCup (lawCup z 13).2 7).1 ∧ ix [0, 0, 1, 2, 3, n, (lawCup z 13).1] (lawCup (lawCup z 13).2 7).1 ≤ 12 :=
    ix_all (P := fun y => 0 ≤ y ∧ y ≤ 12) (by simp; omega) (ix_7 (cup_bd _ (by decide)))
  exact ⟨hn.1, hn.2, hb.1, hb.2, h2.1, h2.2⟩
structure RowOk (n : Int) (t : Tp Int) : Prop where
  up : t.l.Pairwise (· < ·)
  bd : ∀ s ∈ t.l, 0 ≤ s ∧ s < n
structure TrLaw (n most : Int) (tr : List (Tp Int)) : Prop where
  len : (tr.length : Int) ≤ most
  row : ∀ t ∈ tr, RowOk n t
theorem Dct.Ok.mono {α : Type} {d : Dct α} {m m' : Int} (h : d.Ok m) (hm : m ≤ m') : d.Ok m' := ⟨h.1, fun k hk => by have := h.2 k hk; omega⟩
theorem row_ok {n : Int} {d : Dct Bool} (h : d.Ok n) : RowOk n ⟨srt (d.l.map (·.1))⟩ := by
  have hp := srt_perm (d.l.map (·.1))
  refine ⟨?_, fun s hs => h.2 s (hp.mem_iff.mp hs)⟩
  have hn : (srt (d.l.map (·.1))).Nodup := hp.nodup_iff.mpr h.1
  have hs := srt_sorted (d.l.map (·.1))
  exact (hs.and hn).imp fun ⟨a, b⟩ => by omega
theorem tr_many {n : Int} {z : Spr} (n0 : 1 ≤ n) (n1 : n ≤ 12) : 0 ≤ ix [0, 0, 1, 1, 2, n] (lawCup z 6).1 ∧ ix [0, 0, 1, 1, 2, n] (lawCup z 6).1 ≤ 12 :=
  ix_all (P := fun y => 0 ≤ y ∧ y ≤ 12) (by simp; omega) (ix_6 (cup_bd _ (by decide)))
theorem tr_key {n sheet : Int} {often : List Int} {c : Bool} (hs : 0 ≤ sheet ∧ sheet < n) (ho : ∀ y ∈ often, 0 ≤ y ∧ y < n) (hl : 1 ≤ often.length) : 0 ≤ ix [sheet, ix often (sheet % (often.length : Int))] (if c = true then 1 else 0) ∧ ix [sheet, ix often (sheet % (often.length : Int))] (if c = true then 1 else 0) < n := by
  have h1 := ix_all (P := fun y => 0 ≤ y ∧ y < n) ho (i := sheet % (often.length : Int)) ⟨Int.emod_nonneg _ (by omega), Int.emod_lt_of_pos _ (by omega)⟩
  refine ix_all (P := fun y => 0 ≤ y ∧ y < n) (fun y hy => ?_) (ix_2 (by split <;> omega))
  rcases List.mem_cons.mp hy with e | e
  · rw [e]; exact hs
  · rw [List.mem_singleton.mp e]; exact h1
theorem TrLaw.ok {n most : Int} {tr : List (Tp Int)} (h : TrLaw n most tr) (hn : n ≤ 1000) (hm : most ≤ 100000) : TrOk tr := ⟨by have := h.len; omega, fun t ht s hs => by have := (h.row t ht).bd s hs; omega⟩
end GL
namespace GL
open PySem PySem.Spec PyProof.Rows L2
def someM (z : Pen) (n most : Int) : Tp Int × Pen := (⟨(pickX (fun st (_ : Int) => decide ((penTake st n).1 < most)) (fun x => x) (fun st _ => (penTake st n).2) (rng 0 n) z).1⟩, (rng 0 n).foldl (fun st _ => (penTake st n).2) z)
abbrev Tch := List (Tp Int × Tp Int)
def TchOk (n : Int) (y : Tch) : Prop := ∀ t ∈ y, RowOk n t.1 ∧ RowOk n t.2
def wrD (d : Dct Bool) (ws : List Int) : Dct Bool := ws.foldl (fun f x => f.put x true) d
def ndNew (needed : List Int) (written : Dct Bool) (reads : List Int) : List Int := reads.filter fun x => !decide (x ∈ needed) && !(written.get? x).isSome
abbrev LlS := List Int × Dct Bool × Int × Option Int
def llStep (st : LlS) (it : Int × (Tp Int × Tp Int)) : LlS :=
  (st.1 ++ ndNew st.1 st.2.1 it.2.1.l, wrD st.2.1 it.2.2.l,
   if decide (st.2.2.1 < (((st.1 ++ ndNew st.1 st.2.1 it.2.1.l).length : Int) - it.1)) = true then ((st.1 ++ ndNew st.1 st.2.1 it.2.1.l).length : Int) - it.1 else st.2.2.1,
   if decide (st.2.2.1 < (((st.1 ++ ndNew st.1 st.2.1 it.2.1.l).length : Int) - it.1)) = true then some it.1 else st.2.2.2)
@[irreducible] def llM (n : Int) (y : Tch) : T3 (List Int) Int (Option Int) :=
  ⟨((enumI y).foldl llStep ([], Dct.emp, 0, none)).1 ++ (rng 0 n).filter (fun x => !decide (x ∈ ((enumI y).foldl llStep ([], Dct.emp, 0, none)).1)), ((enumI y).foldl llStep ([], Dct.emp, 0, none)).2.2.1, ((enumI y).foldl llStep ([], Dct.emp, 0, none)).2.2.2⟩
def waStep (st : List Int × List Int) (t : Tp Int × Tp Int) : List Int × List Int := (st.1 ++ t.2.l, st.2 ++ t.1.l.filter fun x => !decide (x ∈ st.2) && !decide (x ∈ st.1))
@[irreducible] def wantM (y : Tch) : Int := ((y.foldl waStep ([], [])).2.length : Int)
def laM (reads : List Int) (written : Dct Bool) (came : Dct Int) (now : Int) : List Int := reads.filter fun p => !(written.get? p).isSome && decide (now ≤ (came.get? p).getD now)
def leM (order : List Int) (written : Dct Bool) (came : Dct Int) : List Int := order.filter fun p => !(written.get? p).isSome && !(came.get? p).isSome
def goX (reads order : List Int) (written : Dct Bool) (asks : Bool) (s : Dct Int × Int) : Int := ix [ix (leM order written s.1) 0, ix (laM reads written s.1 s.2) 0] (if asks = true then 1 else 0)
def goM (reads order : List Int) (written : Dct Bool) (asks : Bool) : Nat → Dct Int × Int → Dct Int × Int
  | 0, s => s
  | k + 1, s => if laM reads written s.1 s.2 = [] then s else goM reads order written asks k (s.1.put (goX reads order written asks s) s.2, s.2 + 1)
def CameOk (came : Dct Int) (now : Int) : Prop := (∀ x c, came.get? x = some c → c < now) ∧ came.Ok 1000
theorem la_none {reads : List Int} {written : Dct Bool} {came : Dct Int} {now x : Int} (h : CameOk came now) (hx : x ∈ laM reads written came now) : x ∈ reads ∧ (written.get? x).isSome = false ∧ (came.get? x).isSome = false := by
  obtain ⟨h1, h2⟩ := List.mem_filter.mp hx
  obtain ⟨h3, h4⟩ := Bool.and_eq_true_iff.mp h2
  refine ⟨h1, by simpa using h3, ?_⟩
  cases e : came.get? x with
  | none => rfl
  | some c =>
    rw [e] at h4
    have := h.1 x c e
    have := of_decide_eq_true h4
    dsimp only [Option.getD] at this
    omega
theorem le_of_la {reads order : List Int} {written : Dct Bool} {came : Dct Int} {now x : Int} (h : CameOk came now) (ho : ∀ x ∈ reads, x ∈ order) (hx : x ∈ laM reads written came now) : x ∈ leM order written came := by
  obtain ⟨h1, h2, h3⟩ := la_none h hx
  exact List.mem_filter.mpr ⟨ho x h1, by rw [h2, h3]; rfl⟩
theorem ix0_mem {xs : List Int} (h : xs ≠ []) : ix xs 0 ∈ xs := ix_mem (by omega) (by have := List.length_pos_iff.mpr h; omega)
theorem goX_mem {reads order : List Int} {written : Dct Bool} {asks : Bool} {came : Dct Int} {now : Int} (h : CameOk came now) (ho : ∀ x ∈ reads, x ∈ order) (hl : laM reads written came now ≠ []) : goX reads order written asks (came, now) ∈ leM order written came := by
  have h1 := le_of_la h ho (ix0_mem hl)
  unfold goX
  cases asks with
  | true => exact h1
  | false => exact ix0_mem (List.ne_nil_of_mem h1)
theorem le_less {order : List Int} {written : Dct Bool} {came : Dct Int} {x now : Int} (hx : x ∈ leM order written came) : (leM order written (came.put x now)).length < (leM order written came).length := by
  have e : leM order written (came.put x now) = (leM order written came).filter fun p => decide (p ≠ x) := by
    unfold leM
    rw [List.filter_filter]
    apply List.filter_congr
    intro p _
    rw [Dct.get?_put]
    by_cases q : p = x
    · rw [if_pos q, decide_eq_false (by simpa using q)]
      simp
    · rw [if_neg q, decide_eq_true (by simpa using q)]
      simp
  rw [e]
  have := List.length_filter_lt_length_iff_exists (p := fun p => decide (p ≠ x)) (l := leM order written came)
  exact this.mpr ⟨x, hx, by simp⟩
theorem CameOk.put {came : Dct Int} {now x : Int} (h : CameOk came now) (hx : 0 ≤ x ∧ x < 1000) : CameOk (came.put x now) (now + 1) := by
  refine ⟨fun y c e => ?_, h.2.put _ hx⟩
  rw [Dct.get?_put] at e
  by_cases q : y = x
  · rw [if_pos q] at e
    have : now = c := Option.some.inj e
    omega
  · rw [if_neg q] at e
    have := h.1 y c e
    omega
theorem goM_end {reads order : List Int} {written : Dct Bool} {asks : Bool} {f : Nat} {s : Dct Int × Int} (h : laM reads written s.1 s.2 = []) : goM reads order written asks f s = s := by
  cases f with
  | zero => rfl
  | succ f => rw [goM, if_pos h]
def GoI (reads order : List Int) (written : Dct Bool) (asks : Bool) (X : Dct Int × Int) (st : Dct Int × Int × List Int) : Prop :=
  st.2.2 = laM reads written st.1 st.2.1 ∧ CameOk st.1 st.2.1 ∧ ∃ f, goM reads order written asks f (st.1, st.2.1) = X ∧ (leM order written st.1).length < f
theorem GoI.next {reads order : List Int} {written : Dct Bool} {asks : Bool} {X : Dct Int × Int} {came : Dct Int} {now : Int} {lacks : List Int} (I : GoI reads order written asks X (came, now, lacks)) (ho : ∀ x ∈ reads, x ∈ order) (hb : ∀ x ∈ order, 0 ≤ x ∧ x < 1000) (hl : lacks ≠ []) :
    GoI reads order written asks X (came.put (goX reads order written asks (came, now)) now, now + 1, laM reads written (came.put (goX reads order written asks (came, now)) now) (now + 1)) ∧ (leM order written (came.put (goX reads order written asks (came, now)) now)).length < (leM order written came).length := by
  obtain ⟨h1, h2, f, h3, h4⟩ := I
  dsimp only at h1 h2 h3 h4
  rw [h1] at hl
  have hm := goX_mem (asks := asks) h2 ho hl
  have hd := le_less (now := now) hm
  have hx := hb _ (List.mem_filter.mp hm).1
  refine ⟨⟨rfl, h2.put hx, ?_⟩, hd⟩
  cases f with
  | zero => omega
  | succ f =>
    rw [goM, if_neg hl] at h3
    exact ⟨f, h3, by dsimp only; omega⟩
abbrev PlS := Dct Int × Dct Bool × List Int × Int
def plStep (order : List Int) (asks : Bool) (st : PlS) (t : Tp Int × Tp Int) : PlS :=
  ((cutL (leM order (wrD st.2.1 t.2.l) (goM t.1.l order st.2.1 asks (order.length + 1) (st.1, st.2.2.2)).1) none (some 1)).foldl (fun d p => d.put p (goM t.1.l order st.2.1 asks (order.length + 1) (st.1, st.2.2.2)).2) (goM t.1.l order st.2.1 asks (order.length + 1) (st.1, st.2.2.2)).1,
   wrD st.2.1 t.2.l, st.2.2.1 ++ [(goM t.1.l order st.2.1 asks (order.length + 1) (st.1, st.2.2.2)).2], (goM t.1.l order st.2.1 asks (order.length + 1) (st.1, st.2.2.2)).2 + 1)
@[irreducible] def playG (y : Tch) (order : List Int) (asks : Bool) : List Int × Int :=
  ((y.foldl (plStep order asks) (Dct.emp, Dct.emp, [], 0)).2.2.1, maxL ([0] ++ (cutL (y.foldl (plStep order asks) (Dct.emp, Dct.emp, [], 0)).2.2.1 none (some 1)).map fun _ => lastI (y.foldl (plStep order asks) (Dct.emp, Dct.emp, [], 0)).2.2.1 - ((y.foldl (plStep order asks) (Dct.emp, Dct.emp, [], 0)).2.2.1.length : Int) + 1))
def PlOk (st : PlS) : Prop := CameOk st.1 st.2.2.2 ∧ st.2.1.Ok 1000
end GL
namespace GL
open PySem PySem.Spec PyProof.Rows L2
abbrev OrS := Pen × List Int
def orE (st : OrS) (_ : Int) : Int := ix st.2 (penTake st.1 (st.2.length : Int)).1
def orStep (st : OrS) (_ : Int) : OrS := ((penTake st.1 (st.2.length : Int)).2, st.2.eraseIdx (penTake st.1 (st.2.length : Int)).1.toNat)
@[irreducible] def orderM (z : Pen) (n : Int) : List Int := (mapX orE orStep (rng 0 n) (z, rng 0 n)).1
def nextM (order : List Int) (here : Dct Bool) : Option Int := order.find? fun x => !(here.get? x).isSome
def lackQ (reads : List Int) (here : Dct Bool) : List Int := reads.filter fun x => !(here.get? x).isSome
def HereR (here written : Dct Bool) (came : Dct Int) : Prop := ∀ x, (here.get? x).isSome = ((written.get? x).isSome || (came.get? x).isSome)
theorem lack_la {reads : List Int} {here written : Dct Bool} {came : Dct Int} {now : Int} (h : HereR here written came) (hc : CameOk came now) : lackQ reads here = laM reads written came now := by
  unfold lackQ laM
  apply List.filter_congr
  intro x _
  rw [h x]
  cases e : came.get? x with
  | none => simp
  | some c =>
    have := hc.1 x c e
    simp only [Option.isSome_some, Bool.or_true, Bool.not_true, Option.getD_some]
    rw [decide_eq_false (by omega), Bool.and_false]
theorem lackQ_le {order : List Int} {here written : Dct Bool} {came : Dct Int} (h : HereR here written came) : lackQ order here = leM order written came := by
  unfold lackQ leM
  apply List.filter_congr
  intro x _
  rw [h x, Bool.not_or]
theorem next_lack (order : List Int) (here : Dct Bool) : nextM order here = (lackQ order here).head? := by
  unfold nextM lackQ
  rw [List.head?_filter]
theorem HereR.put {here written : Dct Bool} {came : Dct Int} (h : HereR here written came) (x now : Int) : HereR (here.put x true) written (came.put x now) := fun y => by
  rw [Dct.get?_put, Dct.get?_put]
  by_cases e : y = x
  · rw [if_pos e, if_pos e]
    simp
  · rw [if_neg e, if_neg e]
    exact h y
theorem HereR.wr : ∀ (ws : List Int) {here written : Dct Bool} {came : Dct Int}, HereR here written came → HereR (wrD here ws) (wrD written ws) came
  | [], _, _, _, h => h
  | x :: ws, here, written, came, h => HereR.wr ws (here := here.put x true) (written := written.put x true) fun y => by
    rw [Dct.get?_put, Dct.get?_put]
    by_cases e : y = x
    · rw [if_pos e, if_pos e]
      simp
    · rw [if_neg e, if_neg e]
      exact h y
def GbI (reads order : List Int) (written : Dct Bool) (asks : Bool) (X : Dct Int × Int) (st : Dct Bool × Int) : Prop :=
  ∃ came, HereR st.1 written came ∧ st.1.Ok 1000 ∧ GoI reads order written asks X (came, st.2, laM reads written came st.2)
theorem head_ix {xs : List Int} (h : xs ≠ []) : xs.head? = some (ix xs 0) := by
  cases xs with
  | nil => exact absurd rfl h
  | cons x xs => rfl
def comM (reads order : List Int) (here : Dct Bool) (asks : Bool) : Option Int := if asks = true then some (ix (lackQ reads here) 0) else nextM order here
theorem GbI.next {reads order : List Int} {written here : Dct Bool} {asks : Bool} {X : Dct Int × Int} {now : Int} (I : GbI reads order written asks X (here, now)) (ho : ∀ x ∈ reads, x ∈ order) (hb : ∀ x ∈ order, 0 ≤ x ∧ x < 1000) (hl : lackQ reads here ≠ []) :
    (comM reads order here asks).isSome = true ∧ (0 ≤ (comM reads order here asks).getD default ∧ (comM reads order here asks).getD default < 1000) ∧ GbI reads order written asks X (here.put ((comM reads order here asks).getD default) true, now + 1) ∧ (lackQ order (here.put ((comM reads order here asks).getD default) true)).length < (lackQ order here).length := by
  obtain ⟨came, h1, hok, h2⟩ := I
  dsimp only at h1 h2 hok
  have hcam := h2.2.1
  dsimp only at hcam
  have hla := lack_la (reads := reads) h1 hcam
  have hl' : laM reads written came now ≠ [] := by rw [← hla]; exact hl
  obtain ⟨n1, n2⟩ := h2.next ho hb hl'
  have hm := goX_mem (asks := asks) hcam ho hl'
  have e : comM reads order here asks = some (goX reads order written asks (came, now)) := by
    unfold comM goX
    rw [next_lack, hla, lackQ_le h1]
    cases asks with
    | true => rfl
    | false =>
      rw [if_neg (by decide)]
      exact head_ix (List.ne_nil_of_mem hm)
  have hx := hb _ (List.mem_filter.mp hm).1
  rw [e]
  have h4 := h1.put (goX reads order written asks (came, now)) now
  refine ⟨rfl, hx, ⟨_, h4, hok.put _ hx, n1⟩, ?_⟩
  show (lackQ order (here.put (goX reads order written asks (came, now)) true)).length < _
  rw [lackQ_le h4, lackQ_le h1]
  exact n2
theorem GbI.stop {reads order : List Int} {written here : Dct Bool} {asks : Bool} {X : Dct Int × Int} {now : Int} (I : GbI reads order written asks X (here, now)) (hl : lackQ reads here = []) : HereR here written X.1 ∧ X.2 = now ∧ CameOk X.1 now ∧ here.Ok 1000 := by
  obtain ⟨came, h1, hok, h2, h3, f, h4, h5⟩ := I
  dsimp only at h1 h3 h4 hok
  have hla := lack_la (reads := reads) h1 h3
  have e : X = (came, now) := by rw [← h4, goM_end (by rw [← hla]; exact hl)]
  rw [e]
  exact ⟨h1, rfl, h3, hok⟩
def GnI (order : List Int) (asks : Bool) (pre : Tch) (st : Dct Bool × List Int × Int) : Prop :=
  ∃ came written, pre.foldl (plStep order asks) (Dct.emp, Dct.emp, [], 0) = (came, written, st.2.1, st.2.2) ∧ HereR st.1 written came ∧ st.1.Ok 1000 ∧ (pre.length : Int) ≤ st.2.2 ∧ st.2.1.length = pre.length ∧ (st.2.1 ≠ [] → lastI st.2.1 + 1 = st.2.2)
theorem GnI.start (order : List Int) (asks : Bool) : GnI order asks [] (Dct.emp, [], 0) := ⟨Dct.emp, Dct.emp, rfl, fun x => rfl, Dct.Ok.emp, Int.le_refl _, rfl, fun h => absurd rfl h⟩
theorem goM_ge {reads order : List Int} {written : Dct Bool} {asks : Bool} : ∀ (f : Nat) (s : Dct Int × Int), s.2 ≤ (goM reads order written asks f s).2
  | 0, s => Int.le_refl _
  | f + 1, s => by
    rw [goM]
    split
    · exact Int.le_refl _
    · have := goM_ge (reads := reads) (order := order) (written := written) (asks := asks) f (s.1.put (goX reads order written asks s) s.2, s.2 + 1)
      dsimp only at this
      exact Int.le_trans (by omega) this
theorem lastI_snoc (xs : List Int) (x : Int) : lastI (xs ++ [x]) = x := by
  unfold lastI ix
  simp
theorem GnI.step {order : List Int} {asks : Bool} {pre : Tch} {t : Tp Int × Tp Int} {came : Dct Int} {written here here2 : Dct Bool} {done : List Int} {now : Int}
    (hst : pre.foldl (plStep order asks) (Dct.emp, Dct.emp, [], 0) = (came, written, done, now)) (hlen : (pre.length : Int) ≤ now) (hdl : done.length = pre.length)
    (h : HereR here (wrD written t.2.l) (goM t.1.l order written asks (order.length + 1) (came, now)).1)
    (h2 : here2 = match nextM order here with | none => here | some x => here.put x true) (hok : here2.Ok 1000) :
    GnI order asks (pre ++ [t]) (here2, done ++ [(goM t.1.l order written asks (order.length + 1) (came, now)).2], (goM t.1.l order written asks (order.length + 1) (came, now)).2 + 1) := by
  have hge := goM_ge (reads := t.1.l) (order := order) (written := written) (asks := asks) (order.length + 1) (came, now)
  dsimp only at hge
  refine ⟨_, _, by rw [List.foldl_append, hst]; rfl, ?_, hok, ?_, ?_, ?_⟩
  · show HereR here2 (wrD written t.2.l) ((cutL (leM order (wrD written t.2.l) (goM t.1.l order written asks (order.length + 1) (came, now)).1) none (some 1)).foldl (fun d p => d.put p (goM t.1.l order written asks (order.length + 1) (came, now)).2) (goM t.1.l order written asks (order.length + 1) (came, now)).1)
    rw [h2, next_lack, lackQ_le h]
    cases leM order (wrD written t.2.l) (goM t.1.l order written asks (order.length + 1) (came, now)).1 with
    | nil => exact h
    | cons x xs => exact h.put x _
  · rw [List.length_append, List.length_singleton]
    dsimp only
    omega
  · dsimp only
    rw [List.length_append, List.length_append, hdl]
    rfl
  · intro _
    dsimp only
    rw [lastI_snoc]
theorem GnI.end {order : List Int} {asks : Bool} {y : Tch} {here : Dct Bool} {done : List Int} {now : Int} (I : GnI order asks y (here, done, now)) :
    playG y order asks = (done, if done = [] then 0 else lastI done - (done.length : Int) + 1) := by
  obtain ⟨came, written, h1, h2, _, h3, h4, h5⟩ := I
  dsimp only at h1 h3 h4 h5
  unfold playG
  rw [h1]
  dsimp only
  cases done with
  | nil => rfl
  | cons x xs =>
    have h6 := h5 (by simp)
    rw [if_neg (by simp)]
    have e : cutL (x :: xs) none (some 1) = [x] := rfl
    rw [e]
    congr 1
    show max (0 : Int) (lastI (x :: xs) - ((x :: xs).length : Int) + 1) = _
    omega
end GL
namespace GL
open PySem PySem.Spec PyProof.Rows L2
def WRow.isSet : WRow → Bool
  | .set _ _ => true
  | _ => false
def WRow.isAdd : WRow → Bool
  | .add _ _ => true
  | _ => false
def WRow.isJump : WRow → Bool
  | .jump _ _ => true
  | _ => false
def WRow.isSay : WRow → Bool
  | .say _ => true
  | _ => false
def WRow.isTake : WRow → Bool
  | .take _ => true
  | _ => false
def WRow.isFin : WRow → Bool
  | .fin => true
  | _ => false
abbrev Prog := T3 Int Int (Tp WRow)
abbrev Stand := Int × Tp Int
abbrev TickR := T5 Stand Str (Option Int) (Tp Int) (Tp Int)
def RowV (n w many : Int) : WRow → Prop
  | .set p v => (0 ≤ p ∧ p < n) ∧ 0 ≤ v ∧ v < w
  | .add p q => (0 ≤ p ∧ p < n) ∧ 0 ≤ q ∧ q < n
  | .jump p r => (0 ≤ p ∧ p < n) ∧ 0 ≤ r ∧ r < many
  | .say p => 0 ≤ p ∧ p < n
  | .take p => 0 ≤ p ∧ p < n
  | .fin => True
structure ProgOk (g : Prog) : Prop where
  n0 : 1 ≤ g.a
  n1 : g.a ≤ 12
  w0 : 2 ≤ g.b
  w1 : g.b ≤ 100
  m0 : 1 ≤ g.c.l.length
  m1 : g.c.l.length ≤ 20
  rows : ∀ r ∈ g.c.l, RowV g.a g.b g.c.l.length r
structure StandOk (g : Prog) (s : Stand) : Prop where
  a0 : 0 ≤ s.1
  a1 : s.1 ≤ g.c.l.length
  len : (s.2.l.length : Int) = g.a
  nums : ∀ x ∈ s.2.l, 0 ≤ x ∧ x < g.b
def rowAtM (g : Prog) (s : Stand) : Option WRow := if (decide (s.1 = (g.c.l.length : Int)) || decide (ix g.c.l s.1 = WRow.fin)) = true then none else some (ix g.c.l s.1)
def readsM : WRow → Tp Int
  | .add p q => ⟨usrt [p, q]⟩
  | .jump p _ => ⟨[p]⟩
  | .say p => ⟨[p]⟩
  | _ => ⟨[]⟩
def writesM : WRow → Tp Int
  | .set p _ => ⟨[p]⟩
  | .add p _ => ⟨[p]⟩
  | .take p => ⟨[p]⟩
  | _ => ⟨[]⟩
def withM (sheets : Tp Int) (sheet number : Int) : Tp Int := ⟨cutL sheets.l none (some sheet) ++ [number] ++ cutL sheets.l (some (sheet + 1)) none⟩
def dSh (w : Int) (sheets : Tp Int) (letters : List Int) : WRow → Tp Int
  | .set p v => withM sheets p v
  | .add p q => withM sheets p ((ix sheets.l p + ix sheets.l q) % w)
  | .take p => withM sheets p (ix letters 0)
  | _ => sheets
def dWo : WRow → Str
  | .say _ => Str.ofString "said"
  | .take _ => Str.ofString "took"
  | _ => Str.ofString "did"
def dNu (sheets : Tp Int) (letters : List Int) : WRow → Option Int
  | .say p => some (ix sheets.l p)
  | .take _ => some (ix letters 0)
  | _ => none
def dGo (at_ : Int) (sheets : Tp Int) : WRow → Int
  | .jump p r => if decide (ix sheets.l p = 0) = true then r else at_ + 1
  | _ => at_ + 1
def doneM (g : Prog) (s : Stand) (r : WRow) (letters : List Int) : TickR := ⟨(dGo s.1 s.2 r, dSh g.b s.2 letters r), dWo r, dNu s.2 letters r, readsM r, writesM r⟩
@[irreducible] def tickM (g : Prog) (s : Stand) (letters : List Int) : TickR := match rowAtM g s with
  | none => ⟨s, Str.ofString "ended", none, ⟨[]⟩, ⟨[]⟩⟩
  | some r => if (r.isTake && decide (letters = [])) = true then ⟨s, Str.ofString "waits", none, ⟨[]⟩, ⟨[]⟩⟩ else doneM g s r letters
theorem with_set {sheets : Tp Int} {p v : Int} (h : 0 ≤ p ∧ p < sheets.l.length) : withM sheets p v = ⟨sheets.l.set p.toNat v⟩ := by
  obtain ⟨l⟩ := sheets
  unfold withM
  congr 1
  dsimp only at h ⊢
  have e : p = ((p.toNat : Nat) : Int) := by omega
  have e1 : p + 1 = ((p.toNat + 1 : Nat) : Int) := by omega
  unfold cutL
  rw [e1, e, HT.sIx_none, HT.sIx_none, HT.sIx_nat, HT.sIx_nat, Nat.min_eq_left (by omega), Nat.min_eq_left (by omega), List.drop_zero, Nat.sub_zero, Int.toNat_natCast,
    List.take_of_length_le (l := l.drop (p.toNat + 1)) (by rw [List.length_drop]; omega), List.set_eq_take_append_cons_drop, if_pos (by omega), List.append_assoc]
  rfl
@[irreducible] def rowM (z : Pen) (n w many : Int) (takes : Bool) : WRow × Pen :=
  let way := penTake z 14
  let p := penTake way.2 n
  if decide (way.1 < 3) = true then (.set p.1 (penTake p.2 w).1, (penTake p.2 w).2)
  else if decide (way.1 < 7) = true then (.add p.1 (penTake p.2 n).1, (penTake p.2 n).2)
  else if decide (way.1 < 9) = true then (.jump p.1 (penTake p.2 many).1, (penTake p.2 many).2)
  else if decide (way.1 < 11) = true then (.say p.1, p.2)
  else if (decide (way.1 < 13) && takes) = true then (.take p.1, p.2)
  else if decide (way.1 < 13) = true then (.add p.1 p.1, p.2)
  else (ix [.fin, .jump p.1 (penTake p.2 many).1, .say p.1] (penTake (penTake p.2 many).2 3).1, (penTake (penTake p.2 many).2 3).2)
def RowT (takes : Bool) (r : WRow) : Prop := r.isTake = true → takes = true
def shE (w : Int) (st : Pen) (_ : Int) : Int := (penTake (penTake st 3).2 (ix [w, 1] (if decide ((penTake st 3).1 = 0) = true then 1 else 0))).1
def shStep (w : Int) (st : Pen) (_ : Int) : Pen := (penTake (penTake st 3).2 (ix [w, 1] (if decide ((penTake st 3).1 = 0) = true then 1 else 0))).2
@[irreducible] def sheetsM (z : Pen) (g : Prog) : Tp Int × Pen := (⟨(mapX (shE g.b) (shStep g.b) (rng 0 g.a) z).1⟩, (mapX (shE g.b) (shStep g.b) (rng 0 g.a) z).2)
theorem tick_row {g : Prog} {s : Stand} {r : WRow} (hg : ProgOk g) (hs : StandOk g s) (h : rowAtM g s = some r) : s.1 < g.c.l.length ∧ r = ix g.c.l s.1 ∧ r ≠ .fin ∧ RowV g.a g.b g.c.l.length r := by
  unfold rowAtM at h
  split at h
  · cases h
  · rename_i hc
    have e : ix g.c.l s.1 = r := Option.some.inj h
    simp at hc
    have h1 := hs.a0
    have h2 := hs.a1
    have hlt : s.1 < g.c.l.length := by omega
    refine ⟨hlt, e.symm, by rw [← e]; exact hc.2, ?_⟩
    rw [← e]
    exact hg.rows _ (ix_mem h1 hlt)
section
variable {r : WRow} {w : Int} {sheets : Tp Int} {letters : List Int}
end
end GL
namespace L2
open PySem PySem.Spec PyProof.Rows
section
variable {X : Cx}
def gFld (K : PySem.W.Frag) (to : TE) (f : Str) : TG := fun v σ H Q => to σ H fun x H1 => ∃ a C dx fs, x = .ref a ∧ H1 a = some (.ins C dx fs) ∧ Cls K C ∧ NoAttr K C f ∧ fs.length < 1000 ∧ Q σ (upd H1 a (.ins C dx (putF f v fs)))
end
end L2
namespace GL
open PySem PySem.Spec PyProof.Rows L2
def fIx (f : Str) : List Str → Nat
  | [] => 0
  | k :: ks => if k = f then 0 else fIx f ks + 1
theorem put_zip {f : Str} {y : V} : ∀ {ks : List Str} {vs : List V} {n : Nat}, fIx f ks = n → n < ks.length → ks.length = vs.length → putF f y (ks.zip vs) = ks.zip (vs.set n y)
  | [], _, _, _, h, _ => absurd h (Nat.not_lt_zero _)
  | _ :: _, [], _, _, _, h => by cases h
  | k :: ks, v :: vs, n, e, h, hl => by
    unfold fIx at e
    rw [List.zip_cons_cons]
    unfold putF
    by_cases c : k = f
    · rw [if_pos c] at e ⊢
      subst e
      rfl
    · rw [if_neg c] at e ⊢
      subst e
      rw [put_zip (ks := ks) (vs := vs) rfl (by simpa using h) (by simpa using hl)]
      rfl
def oV : Option Int → V
  | none => .non
  | some x => .int x
structure Car (C : Addr) where
  a : Addr
  w : Addr
  s : Addr
  f : Addr
  b : Addr
  g : Prog
  st : Stand
  houses : Int
  place : Int
  wait : List Int
  said : List Int
  done : Int
  goal : Option Int
  still : Bool
  fresh : Dct Bool
  made : Int
  absent : Dct Bool
def carK : List Str := ["program", "stand", "houses", "place", "waiting", "spoken", "done", "goal", "is_still", "fresh", "made", "absent"]
def carV {C : Addr} (z : Car C) (pv sv : V) : List V := [pv, sv, .int z.houses, .int z.place, .ref z.w, .ref z.s, .int z.done, oV z.goal, .bl z.still, .ref z.f, .int z.made, .ref z.b]
structure CarAt {C : Addr} (K : Fg) (S H : Hp) (z : Car C) (dx : Addr) (pv sv : V) (kf kb : List (Key × V)) : Prop where
  cl : Cls K C
  na : ∀ k ∈ carK, NoAttr K C k
  ob : H z.a = some (.ins C dx (carK.zip (carV z pv sv)))
  rg : Py.rep K S pv z.g
  rs : Py.rep K S sv z.st
  hw : H z.w = some (.lst (z.wait.map V.int))
  hs : H z.s = some (.lst (z.said.map V.int))
  hf : H z.f = some (.dK kf)
  rf : RepD K S kf z.fresh.l
  hb : H z.b = some (.dK kb)
  rb : RepD K S kb z.absent.l
  d1 : z.w ≠ z.s
  d2 : z.f ≠ z.b
def Car.fp {C : Addr} (z : Car C) : List Addr := [z.a, z.w, z.s, z.f, z.b]
section
variable {C : Addr} {K : Fg} {S S' H H' : Hp} {z z' : Car C} {dx : Addr} {pv sv : V} {kf kb : List (Key × V)}
theorem CarAt.mono (c : CarAt K S H z dx pv sv kf kb) (e : Same S S') (h : ∀ p ∈ z.fp, H' p = H p) : CarAt K S' H' z dx pv sv kf kb :=
  ⟨c.cl, c.na, by rw [h _ (by simp [Car.fp])]; exact c.ob, Py.mono e c.rg, Py.mono e c.rs, by rw [h _ (by simp [Car.fp])]; exact c.hw, by rw [h _ (by simp [Car.fp])]; exact c.hs, by rw [h _ (by simp [Car.fp])]; exact c.hf, c.rf.mono e, by rw [h _ (by simp [Car.fp])]; exact c.hb, c.rb.mono e, c.d1, c.d2⟩
instance : Own (Car C) := ⟨fun K S H v ps z => v = .ref z.a ∧ ps = z.fp ∧ ∃ dx pv sv kf kb, CarAt K S H z dx pv sv kf kb, fun {K S S' H H' v ps x} e a ⟨h1, h2, dx, pv, sv, kf, kb, c⟩ => ⟨h1, h2, dx, pv, sv, kf, kb, c.mono e (by rw [← h2]; exact a)⟩⟩
instance : Anch (Car C) := ⟨fun z => (.ref z.a, z.fp), fun ⟨h1, h2, _⟩ => by rw [h1, h2]⟩
theorem CarAt.ne_w (c : CarAt K S H z dx pv sv kf kb) : z.w ≠ z.a := fun e => by have h := c.hw; rw [e, c.ob] at h; cases h
theorem CarAt.ne_s (c : CarAt K S H z dx pv sv kf kb) : z.s ≠ z.a := fun e => by have h := c.hs; rw [e, c.ob] at h; cases h
theorem CarAt.ne_f (c : CarAt K S H z dx pv sv kf kb) : z.f ≠ z.a := fun e => by have h := c.hf; rw [e, c.ob] at h; cases h
theorem CarAt.ne_b (c : CarAt K S H z dx pv sv kf kb) : z.b ≠ z.a := fun e => by have h := c.hb; rw [e, c.ob] at h; cases h
theorem CarAt.set {pv' sv' : V} {f : Str} {y : V} {n : Nat} (c : CarAt K S H z dx pv sv kf kb) (hn : fIx f carK = n) (hl : n < 12) (e : (carV z pv sv).set n y = carV z' pv' sv') (ha : z'.a = z.a) (h1 : z'.w = z.w) (h2 : z'.s = z.s) (h3 : z'.f = z.f) (h4 : z'.b = z.b)
    (w1 : z'.wait = z.wait) (w2 : z'.said = z.said) (w3 : z'.fresh = z.fresh) (w4 : z'.absent = z.absent) (rg : Py.rep K S pv' z'.g) (rs : Py.rep K S sv' z'.st) : CarAt K S (upd H z.a (.ins C dx (putF f y (carK.zip (carV z pv sv))))) z' dx pv' sv' kf kb := by
  refine ⟨c.cl, c.na, ?_, rg, rs, ?_, ?_, ?_, by rw [w3]; exact c.rf, ?_, by rw [w4]; exact c.rb, by rw [h1, h2]; exact c.d1, by rw [h3, h4]; exact c.d2⟩
  · rw [ha, upd_same, put_zip hn hl rfl, e]
  · rw [h1, w1, upd_ne c.ne_w]; exact c.hw
  · rw [h2, w2, upd_ne c.ne_s]; exact c.hs
  · rw [h3, upd_ne c.ne_f]; exact c.hf
  · rw [h4, upd_ne c.ne_b]; exact c.hb
end
section
variable {C : Addr} {K : Fg} {B S0 S1 S S' D : Hp} {σ : L2.St} {H H' : Hp} {F : Nat → List Addr} {G G' G1 G2 G3 G4 G5 : List Sl} {ta tb tc td te : TE} {i j l : Nat} {t u : TS} {E : Ends} {z : Car C}
end
end GL
namespace GL
open PySem PySem.Spec PyProof.Rows L2
structure Lnt (α : Type) where
  B : Hp
  S1 : Hp
  SL : Hp
  x : List α
instance {α : Type} [Py α] : Py (Lnt α) := ⟨fun K S v y => ∃ q vs, v = .ref q ∧ y.SL = upd y.S1 q (.lst vs) ∧ y.S1 q = none ∧ y.B q = none ∧ RepL K y.S1 vs y.x ∧ Same y.SL S, fun e ⟨q, vs, h1, h2, h3, h4, h5, h6⟩ => ⟨q, vs, h1, h2, h3, h4, h5, h6.trans e⟩⟩
section
variable {K : Fg} {B S0 S1 S S' SL D : Hp} {σ : L2.St} {H H' : Hp} {F : Nat → List Addr} {G G' G1 G2 G3 : List Sl} {ta tb tc te : TE} {i j : Nat} {t u : TS} {E : Ends}
inductive ThX (S : Hp) : List Sl → List Sl → Prop
  | n : ThX S [] []
  | k {α : Type} [Py α] {x : α} {S' : Hp} {G G' : List Sl} (h : Same S' S) : ThX S G G' → ThX S (.im (At1.mk S' x) :: G) (.im (At1.mk S' x) :: G')
  | l {α : Type} [Py α] {x : List α} {B S' : Hp} {G G' : List Sl} : ThX S G G' → ThX S (.im (Lnt.mk B S' S x) :: G) (.im (Lnt.mk B S' S x) :: G')
  | o {α : Type} [Own α] [OwnI α] {x : α} {G G' : List Sl} : ThX S G G' → ThX S (.ow x :: G) (.ow x :: G')
  | d {s : Sl} {G G' : List Sl} : ThX S G G' → ThX S (.no :: G) (s :: G')
theorem ThX.len {G G' : List Sl} (h : ThX S G G') : G.length = G'.length := by
  induction h with
  | n => rfl
  | k _ _ ih => rw [List.length_cons, List.length_cons, ih]
  | l _ ih => rw [List.length_cons, List.length_cons, ih]
  | o _ ih => rw [List.length_cons, List.length_cons, ih]
  | d _ ih => rw [List.length_cons, List.length_cons, ih]
theorem ThX.get {G G' : List Sl} (t : ThX S G G') : ∀ (i : Nat) (s : Sl), G[i]? = some s → ∃ s', G'[i]? = some s' ∧ ∀ (K : Fg) (S2 H H' : Hp) (sv : Option (Option V)) (ps : List Addr), (∀ p ∈ ps, H' p = H p) → SlOk K S2 H sv ps s' → SlOk K S H' sv ps s := by
  induction t with
  | n => intro i s e; simp at e
  | k h t ih =>
    intro i s e
    cases i with
    | zero =>
      simp only [List.getElem?_cons_zero, Option.some.injEq] at e
      subst e
      exact ⟨_, rfl, fun K S2 H H' sv ps hH ⟨v, h1, h2, h3⟩ => ⟨v, h1, h2, h⟩⟩
    | succ i => simpa using ih i s (by simpa using e)
  | l t ih =>
    intro i s e
    cases i with
    | zero =>
      simp only [List.getElem?_cons_zero, Option.some.injEq] at e
      subst e
      exact ⟨_, rfl, fun K S2 H H' sv ps hH ⟨v, h1, q, vs, a1, a2, a3, a4, a5, a6⟩ => ⟨v, h1, q, vs, a1, a2, a3, a4, a5, Same.refl _⟩⟩
    | succ i => simpa using ih i s (by simpa using e)
  | o t ih =>
    intro i s e
    cases i with
    | zero =>
      simp only [List.getElem?_cons_zero, Option.some.injEq] at e
      subst e
      exact ⟨_, rfl, fun K S2 H H' sv ps hH ⟨v, h1, h2⟩ => ⟨v, h1, Own.mono (Same.refl _) hH (OwnI.go h2)⟩⟩
    | succ i => simpa using ih i s (by simpa using e)
  | d t ih =>
    intro i s e
    cases i with
    | zero =>
      simp only [List.getElem?_cons_zero, Option.some.injEq] at e
      subst e
      exact ⟨_, rfl, fun K S2 H H' sv ps hH _ => True.intro⟩
    | succ i => simpa using ih i s (by simpa using e)
inductive Kp (S : Hp) : Sl → Sl → Prop
  | k {α : Type} [Py α] {x : α} : Kp S (.im (At1.mk S x)) (.im (At1.mk S x))
  | o {α : Type} [Own α] [OwnI α] {x : α} : Kp S (.ow x) (.ow x)
  | d {s : Sl} : Kp S .no s
theorem Kp.ok {s s' : Sl} {S2 : Hp} {sv : Option (Option V)} {ps : List Addr} (h : Kp S s s') (q : SlOk K S2 H sv ps s') : SlOk K S H sv ps s := by
  cases h with
  | k =>
    obtain ⟨v, h1, h2, h3⟩ := q
    exact ⟨v, h1, h2, Same.refl _⟩
  | o =>
    obtain ⟨v, h1, h2⟩ := q
    exact ⟨v, h1, OwnI.go h2⟩
  | d => exact True.intro
inductive Kps (S : Hp) : List Sl → List Sl → Prop
  | n : Kps S [] []
  | c {s s' : Sl} {G G' : List Sl} : Kp S s s' → Kps S G G' → Kps S (s :: G) (s' :: G')
theorem Kps.len {G G' : List Sl} (h : Kps S G G') : G.length = G'.length := by
  induction h with
  | n => rfl
  | c _ _ ih => rw [List.length_cons, List.length_cons, ih]
theorem Kps.get {G G' : List Sl} (t : Kps S G G') : ∀ (i : Nat) (s : Sl), G[i]? = some s → ∃ s', G'[i]? = some s' ∧ Kp S s s' := by
  induction t with
  | n => intro i s e; simp at e
  | c h t ih =>
    intro i s e
    cases i with
    | zero =>
      simp only [List.getElem?_cons_zero, Option.some.injEq] at e
      subst e
      exact ⟨_, rfl, h⟩
    | succ i => simpa using ih i s (by simpa using e)
inductive LeU : List Sl → List Sl → Prop
  | n : LeU [] []
  | k {s : Sl} {G G' : List Sl} : LeU G G' → LeU (s :: G) (s :: G')
  | d {s : Sl} {G G' : List Sl} : LeU G G' → LeU (.no :: G) (s :: G')
  | t {α : Type} [Py α] {x : α} {S : Hp} {G G' : List Sl} : LeU G G' → LeU (.im x :: G) (.im (At1.mk S x) :: G')
theorem LeU.len {G G' : List Sl} (h : LeU G G') : G.length = G'.length := by
  induction h with
  | n => rfl
  | k _ ih => rw [List.length_cons, List.length_cons, ih]
  | d _ ih => rw [List.length_cons, List.length_cons, ih]
  | t _ ih => rw [List.length_cons, List.length_cons, ih]
theorem LeU.get {G G' : List Sl} (t : LeU G G') : ∀ (i : Nat) (s : Sl), G[i]? = some s → ∃ s', G'[i]? = some s' ∧ ∀ (K : Fg) (S H : Hp) (sv : Option (Option V)) (ps : List Addr), SlOk K S H sv ps s' → SlOk K S H sv ps s := by
  induction t with
  | n => intro i s e; simp at e
  | k t ih =>
    intro i s e
    cases i with
    | zero => exact ⟨s, e, fun _ _ _ _ _ h => h⟩
    | succ i => simpa using ih i s (by simpa using e)
  | d t ih =>
    intro i s e
    cases i with
    | zero =>
      simp only [List.getElem?_cons_zero, Option.some.injEq] at e
      subst e
      exact ⟨_, rfl, fun _ _ _ _ _ _ => True.intro⟩
    | succ i => simpa using ih i s (by simpa using e)
  | t t ih =>
    intro i s e
    cases i with
    | zero =>
      simp only [List.getElem?_cons_zero, Option.some.injEq] at e
      subst e
      exact ⟨_, rfl, fun _ _ _ _ _ ⟨v, h1, h2, h3⟩ => ⟨v, h1, Py.mono h3 h2⟩⟩
    | succ i => simpa using ih i s (by simpa using e)
end
end GL
namespace L2
open PySem PySem.Spec PyProof.Rows
section
variable {X : Cx}
def rNeE : R2 := fun x y H Q => ∃ a b ks, x = .ref a ∧ y = .ref b ∧ H a = some (.dK ks) ∧ H b = some (.dK []) ∧ Q (.bl (!ks.isEmpty)) H
end
end L2
namespace GL
open PySem PySem.Spec PyProof.Rows L2
section
variable {C : Addr} {K : Fg} {S S' H H' : Hp} {z z' : Car C} {dx : Addr} {pv sv : V} {kf kb : List (Key × V)}
theorem CarAt.some (c : CarAt K S H z dx pv sv kf kb) {q : Addr} (h : q ∈ z.fp) : ∃ o, H q = some o := by
  simp only [Car.fp, List.mem_cons, List.mem_nil_iff, or_false] at h
  rcases h with e | e | e | e | e <;> rw [e]
  · exact ⟨_, c.ob⟩
  · exact ⟨_, c.hw⟩
  · exact ⟨_, c.hs⟩
  · exact ⟨_, c.hf⟩
  · exact ⟨_, c.hb⟩
end
section
variable {C : Addr} {K : Fg} {B S0 S1 S S' D : Hp} {σ : L2.St} {H H' : Hp} {F : Nat → List Addr} {G G' G1 G2 G3 G4 G5 : List Sl} {ta tb tc td te : TE} {i j l : Nat} {t u : TS} {E : Ends} {z z' : Car C} {dx : Addr} {pv sv : V} {kf kb : List (Key × V)}
end
end GL
namespace GL
open PySem PySem.Spec PyProof.Rows L2
structure MDef (K : Fg) (C : Addr) (m q : Str) (st : Stmt) (ps : List Str) : Prop where
  ex : ∃ (f : Addr) (fd : FuncData), Meth K C m f ∧ Fun K m q st f fd ∧ Binds K fd ps []
structure MCal (P : Program) (w : World) (K : Fg) (mg : Str → Option Value) (base : Heap) (k : Nat) (C : Addr) (m : Str) (ps : List Str) (sp : Sp) : Prop where
  ex : ∃ (f : Addr) (fd : FuncData), Meth K C m f ∧ FnOk P w K mg base CX0 k f fd ps sp ∧ Binds K fd ps []
structure ICal (P : Program) (w : World) (K : Fg) (mg : Str → Option Value) (base : Heap) (k : Nat) (C : Addr) (x : Str) (ps : List Str) (sp : Sp) : Prop where
  ex : ∃ (f : Addr) (fd : FuncData), Mk K C f ∧ mg x = some (.ref C) ∧ FnOk P w K mg base CX0 k f fd ps sp ∧ Binds K fd ps []
def spO {ω α β : Type} [Own ω] [PyA α] [Py β] (K : Fg) (R : ω → α → β → ω → Prop) (pre : ω → α → Prop) : Sp := fun vs H Q _ => ∃ (S : Hp) (v0 : V) (ws : List V) (ps : List Addr) (z : ω) (a : α), vs = v0 :: ws ∧ Same S H ∧ Own.own K S H v0 ps z ∧
  (∀ p ∈ ps, S p = none ∧ ∃ o, H p = some o) ∧ PyA.rep K S ws a ∧ pre z a ∧ ∀ v S' H' ps' y z', R z a y z' → Same S S' → Same S' H' → (∀ p o, p ∉ ps → H p = some o → H' p = some o) → (∀ p o, p ∉ ps → H p = some o → S' p = S p) →
    (∀ p ∈ ps', S' p = none ∧ (∃ o, H' p = some o) ∧ (p ∈ ps ∨ H p = none)) → Own.own K S' H' v0 ps' z' → Py.rep K S' v y → Q v H'
section
variable {K : Fg} {B S0 S1 S S' D : Hp} {σ : L2.St} {H H' : Hp} {F : Nat → List Addr} {G G' G1 G2 : List Sl} {ta te : TE} {i j : Nat} {t : TA} {u : TS} {E : Ends} {Ex : XK}
variable {ω α β : Type} [Own ω] [PyA α] [Py β] {z z' : ω} {a : α}
end
section
variable {C : Addr} {K : Fg} {B S0 S1 S S' D : Hp} {σ : L2.St} {H H' : Hp} {F : Nat → List Addr} {G G' G1 G2 : List Sl} {ta te : TE} {i j : Nat} {t : TA} {u : TS} {E : Ends} {Ex : XK} {m : Str}
variable {α β : Type} [PyA α] [Py β] {z z1 : Car C} {a : α} {f : Car C → α → β × Car C} {R : Car C → α → β → Car C → Prop} {pre : Car C → α → Prop}
end
section
variable {P : Program} {w : World} {K : Fg} {mg : Str → Option Value} {base : Heap} {α β : Type} [Sls α] [Py β] {C : Addr}
end
section
variable {C : Addr} {K : Fg} {B S0 S1 S S' D : Hp} {σ : L2.St} {H H' : Hp} {F : Nat → List Addr} {G G' G1 G2 : List Sl} {ta te : TE} {i j : Nat} {t : TA} {u : TS} {E : Ends} {Ex : XK} {m : Str} {z : Car C}
end
structure Tw where
  w : Str
  r : List (Option Int)
  deriving DecidableEq
instance : Py Tw := ⟨fun K S v x => ∃ p, v = .ref p ∧ SqT K S p (.str x.w :: x.r.map oV), fun e ⟨p, h1, h2⟩ => ⟨p, h1, seqT e h2⟩⟩
def oD : Option Int → PyData
  | none => .none
  | some x => .int x
theorem dp_os {K : Fg} {H : Hp} : ∀ xs : List (Option Int), DpAll K H (xs.map oV) (xs.map oD)
  | [] => .nil
  | none :: xs => .cons .non (dp_os xs)
  | some x :: xs => .cons (.int x) (dp_os xs)
theorem lay_os : ∀ xs : List (Option Int), PyData.canLayAll0 (xs.map oD) = true
  | [] => rfl
  | none :: xs => by rw [List.map_cons, PyData.canLayAll0, lay_os xs]; rfl
  | some x :: xs => by rw [List.map_cons, PyData.canLayAll0, lay_os xs]; rfl
theorem dep_os : ∀ xs : List (Option Int), PyData.depthAll (xs.map oD) ≤ 0
  | [] => by rw [List.map_nil, PyData.depthAll]; exact Nat.le_refl _
  | none :: xs => by have := dep_os xs; rw [List.map_cons, PyData.depthAll]; simp [oD, PyData.depth]; omega
  | some x :: xs => by have := dep_os xs; rw [List.map_cons, PyData.depthAll]; simp [oD, PyData.depth]; omega
theorem eq_os : ∀ xs ys : List (Option Int), (PyData.eqvAll (xs.map oD) (ys.map oD) = true) ↔ xs = ys
  | [], [] => by simp [PyData.eqvAll]
  | [], _ :: _ => by simp [PyData.eqvAll]
  | _ :: _, [] => by simp [PyData.eqvAll]
  | x :: xs, y :: ys => by
    rw [List.map_cons, List.map_cons, PyData.eqvAll, Bool.and_eq_true, eq_os xs ys, List.cons.injEq]
    refine and_congr ?_ Iff.rfl
    cases x <;> cases y <;> simp [oD, PyData.eqv]
instance (priority := 600) : Dq Tw := ⟨fun x => .tuple (.str x.w :: x.r.map oD), fun x => (PyData.str x.w).canLay0 = true, fun e ⟨p, h1, h2⟩ => by rw [h1]; exact .tup (seqT e h2) (.cons (.str _) (dp_os _)),
  fun x h => by rw [PyData.canLay0, PyData.canLayAll0, h, lay_os]; rfl, 1, fun x => by have := dep_os x.r; rw [PyData.depth, PyData.depthAll]; simp [PyData.depth]; omega, fun x y => by
    obtain ⟨w, r⟩ := x
    obtain ⟨w', r'⟩ := y
    rw [PyData.eqv, PyData.eqvAll, Bool.and_eq_true, eq_os]
    simp [PyData.eqv]⟩
section
variable {K : Fg} {G G1 G2 : List Sl} {ta tb : TE}
end
end GL
namespace GL
open PySem PySem.Spec PyProof.Rows L2
def spCI (K : Fg) (C : Addr) : Sp := fun vs H Q _ => ∃ (S : Hp) (x dx : Addr) (pv sv : V) (g : Prog) (st : Stand) (h : Int), vs = [.ref x, pv, sv, .int h] ∧ H x = some (.ins C dx []) ∧ Py.rep K S pv g ∧ Py.rep K S sv st ∧
  ∀ (w s f b : Addr) (H' : Hp), H w = none → H s = none → H f = none → H b = none → CarAt K S H' (Car.mk (C := C) x w s f b g st h 0 [] [] 0 none false Dct.emp 0 Dct.emp) dx pv sv [] [] → (∀ p o, p ≠ x → H p = some o → H' p = some o) → Q .non H'
section
variable {P : Program} {w : World} {K : Fg} {mg : Str → Option Value} {base : Heap} {C x dx : Addr} {H : Hp} {σ : L2.St} {u : TS} {D : Ends} {tv : TE} {f : Str} {ks : List Str} {vs : List V}
end
section
variable {C : Addr} {K : Fg} {B S0 S1 S S' D : Hp} {σ : L2.St} {H H' : Hp} {F : Nat → List Addr} {G G' G1 G2 : List Sl} {i : Nat} {t : TA} {u : TS} {E : Ends} {Ex : XK}
end
end GL
namespace GL
open PySem PySem.Spec PyProof.Rows L2
def LetOk (g : Prog) (l : List Int) : Prop := ∀ x ∈ l, 0 ≤ x ∧ x < g.b
theorem with_ok {g : Prog} {s : Tp Int} {p v : Int} (hl : (s.l.length : Int) = g.a) (hn : ∀ x ∈ s.l, 0 ≤ x ∧ x < g.b) (hp : 0 ≤ p ∧ p < g.a) (hv : 0 ≤ v ∧ v < g.b) : ((withM s p v).l.length : Int) = g.a ∧ ∀ x ∈ (withM s p v).l, 0 ≤ x ∧ x < g.b := by
  rw [with_set (by omega)]
  refine ⟨by dsimp only; rw [List.length_set]; exact hl, fun x hx => ?_⟩
  rcases List.mem_or_eq_of_mem_set hx with h | h
  · exact hn x h
  · rw [h]; exact hv
theorem tick_cases (P : TickR → Prop) {g : Prog} {s : Stand} {letters : List Int} (h1 : rowAtM g s = none → P ⟨s, Str.ofString "ended", none, ⟨[]⟩, ⟨[]⟩⟩) (h2 : ∀ p, rowAtM g s = some (.take p) → letters = [] → P ⟨s, Str.ofString "waits", none, ⟨[]⟩, ⟨[]⟩⟩) (h3 : ∀ r, rowAtM g s = some r → (r.isTake = true → letters ≠ []) → P (doneM g s r letters)) : P (tickM g s letters) := by
  unfold tickM
  cases e : rowAtM g s with
  | none => exact h1 e
  | some r =>
    dsimp only
    split
    · rename_i hc
      obtain ⟨c1, c2⟩ := Bool.and_eq_true_iff.mp hc
      cases r <;> first | exact absurd c1 Bool.false_ne_true | exact h2 _ e (of_decide_eq_true c2)
    · rename_i hc
      exact h3 r e fun ht hl => hc (by rw [ht, hl]; rfl)
theorem tick_ok {g : Prog} {s : Stand} {letters : List Int} (hg : ProgOk g) (hs : StandOk g s) (hl : LetOk g letters) : StandOk g (tickM g s letters).a := by
  refine tick_cases (fun t => StandOk g t.a) (fun _ => hs) (fun _ _ _ => hs) fun r hr ht => ?_
  obtain ⟨h1, h2, h3, h4⟩ := tick_row hg hs hr
  have ha := hs.a0
  have hw := hg.w0
  have key : (0 ≤ dGo s.1 s.2 r ∧ dGo s.1 s.2 r ≤ g.c.l.length) ∧ ((dSh g.b s.2 letters r).l.length : Int) = g.a ∧ ∀ x ∈ (dSh g.b s.2 letters r).l, 0 ≤ x ∧ x < g.b := by
    cases r with
    | set p v => exact ⟨by dsimp only [dGo]; omega, with_ok hs.len hs.nums h4.1 h4.2⟩
    | add p q => exact ⟨by dsimp only [dGo]; omega, with_ok hs.len hs.nums h4.1 ⟨Int.emod_nonneg _ (by omega), Int.emod_lt_of_pos _ (by omega)⟩⟩
    | jump p q =>
      refine ⟨?_, hs.len, hs.nums⟩
      have := h4.2
      dsimp only [dGo]
      split <;> omega
    | say p => exact ⟨by dsimp only [dGo]; omega, hs.len, hs.nums⟩
    | take p =>
      refine ⟨by dsimp only [dGo]; omega, with_ok hs.len hs.nums h4 (hl _ (ix_mem (by decide) ?_))⟩
      have := List.length_pos_iff.mpr (ht rfl)
      omega
    | fin => exact absurd rfl h3
  exact ⟨key.1.1, key.1.2, key.2.1, key.2.2⟩
end GL
namespace GL
open PySem PySem.Spec PyProof.Rows L2
variable {C : Addr}
structure CarOk (z : Car C) : Prop where
  g : ProgOk z.g
  s : StandOk z.g z.st
  l : LetOk z.g z.wait
  wl : z.wait.length ≤ 100000
  sl : z.said.length ≤ 100000
def lksM (z : Car C) : List Int := match rowAtM z.g z.st with
  | none => []
  | some r => (readsM r).l.filter fun p => (z.absent.get? p).isSome
def wentM (z : Car C) (t : TickR) : Car C := { z with st := t.a, wait := if decide (t.b = Str.ofString "took") = true then z.wait.drop 1 else z.wait, said := if decide (t.b = Str.ofString "said") = true then z.said ++ [t.c.getD default] else z.said, fresh := t.e.l.foldl Dct.del z.fresh, absent := t.e.l.foldl Dct.del z.absent, done := z.done + 1 }
@[irreducible] def tickC (z : Car C) : Tw × Car C :=
  if z.still = true then (⟨Str.ofString "still", []⟩, z)
  else if lksM z ≠ [] then (⟨Str.ofString "lacks", [some (ix (lksM z) 0)]⟩, z)
  else (⟨(tickM z.g z.st z.wait).b, [(tickM z.g z.st z.wait).c]⟩, wentM z (tickM z.g z.st z.wait))
@[irreducible] def lfM (z : Car C) : List Int := (rng 0 z.g.a).filter fun p => !(z.fresh.get? p).isSome
@[irreducible] def copyC (z : Car C) (p : Int) : Car C := { z with fresh := z.fresh.put p true, made := z.made + 1 }
@[irreducible] def letterC (z : Car C) (v : Int) : Car C := { z with wait := z.wait ++ [v] }
@[irreducible] def stillC (z : Car C) : Car C := { z with still := true }
@[irreducible] def goesC (z : Car C) : Car C := { z with place := z.goal.getD default, goal := none, still := false }
@[irreducible] def lackC (z : Car C) (l : List Int) : Car C := { z with absent := l.foldl (fun d p => d.put p true) z.absent }
@[irreducible] def bringC (z : Car C) (p : Int) : Car C := { z with absent := z.absent.del p }
@[irreducible] def dropC (z : Car C) : Car C := { z with goal := none, still := false }
def BegR (z : Car C) (h : Int) (z' : Car C) : Prop := ∃ f', z' = { z with f := f', goal := some h, still := false, fresh := Dct.emp, made := 0 }
theorem put_len {d : Dct Bool} {k : Int} {x : Bool} : (d.put k x).l.length ≤ d.l.length + 1 := by
  unfold Dct.put
  dsimp only
  split
  · rw [List.length_map]; omega
  · rw [List.length_append]; exact Nat.le_refl _
theorem del_len {d : Dct Bool} {k : Int} : (d.del k).l.length ≤ d.l.length := List.length_filter_le _ _
end GL
namespace GL
open PySem PySem.Spec PyProof.Rows L2
variable {C : Addr}
def popBoth (z : Car C) (p : Int) : Car C := { z with fresh := z.fresh.del p, absent := z.absent.del p }
theorem tick_end {z : Car C} {z' : Car C} {w : Tw} (h0 : z.still = false) (h1 : lksM z = []) (hw : w = ⟨(tickM z.g z.st z.wait).b, [(tickM z.g z.st z.wait).c]⟩) (hz : z' = wentM z (tickM z.g z.st z.wait)) : (w, z') = tickC z := by
  unfold tickC
  rw [if_neg (by rw [h0]; decide), if_neg (by simp [h1]), hw, hz]
end GL
namespace GL
open PySem PySem.Spec PyProof.Rows L2
variable {C : Addr}
end GL
namespace GL
open PySem PySem.Spec PyProof.Rows L2
variable {C : Addr}
end GL
namespace GL
open PySem PySem.Spec PyProof.Rows L2
theorem rev_indU {α : Type} {P : List α → Prop} (h0 : P []) (hs : ∀ xs x, P xs → P (xs ++ [x])) (xs : List α) : P xs := by
  have h : ∀ ys : List α, P ys.reverse := fun ys => by
    induction ys with
    | nil => exact h0
    | cons y ys ih => rw [List.reverse_cons]; exact hs _ _ ih
  have := h xs.reverse
  rwa [List.reverse_reverse] at this
theorem ix_get {α : Type} [Inhabited α] {xs : List α} {i : Int} (h0 : 0 ≤ i) (h : i.toNat < xs.length) : ix xs i = xs[i.toNat] := by
  have e := ix_at (xs := xs) h0 (by omega)
  rw [List.getElem?_eq_getElem h] at e
  exact (Option.some.inj e).symm
abbrev Lets := List (Int × Int)
structure LetsOk (g : Prog) (l : Lets) : Prop where
  srt : (l.map (·.1)).Pairwise (· ≤ ·)
  nums : ∀ x ∈ l, 0 ≤ x.2 ∧ x.2 < g.b
  len : l.length ≤ 1000
def availM (l : Lets) (now : Int) : List Int := (l.filter (fun x => decide (x.1 ≤ now))).map (·.2)
abbrev Said := List (Int × Option Int)
abbrev Tou := List (Tp Int × Tp Int)
abbrev RunS := Int × Stand × Said × Tou
@[irreducible] def runStep (g : Prog) (l : Lets) (st : RunS) (now : Int) : RunS :=
  let t := tickM g st.2.1 ((availM l now).drop st.1.toNat)
  (st.1 + (if decide (t.b = Str.ofString "took") = true then 1 else 0), t.a, if decide (t.b = Str.ofString "said") = true then st.2.2.1 ++ [(now, t.c)] else st.2.2.1, st.2.2.2 ++ [(t.d, t.e)])
@[irreducible] def runF (g : Prog) (s : Stand) (l : Lets) (xs : List Int) : RunS := xs.foldl (runStep g l) (0, s, [], [])
@[irreducible] def runM (g : Prog) (s : Stand) (l : Lets) (many : Int) : T3 Stand Said Tou := ⟨(runF g s l (rng 0 many)).2.1, (runF g s l (rng 0 many)).2.2.1, (runF g s l (rng 0 many)).2.2.2⟩
theorem run_nil (g : Prog) (s : Stand) (l : Lets) : runF g s l [] = (0, s, [], []) := by unfold runF; rfl
theorem run_snoc (g : Prog) (s : Stand) (l : Lets) (xs : List Int) (n : Int) : runF g s l (xs ++ [n]) = runStep g l (runF g s l xs) n := by
  unfold runF; rw [List.foldl_append]; rfl
theorem avail_ok {g : Prog} {l : Lets} (h : LetsOk g l) (now : Int) (u : Nat) : LetOk g ((availM l now).drop u) ∧ ((availM l now).drop u).length ≤ 100000 := by
  refine ⟨fun x hx => ?_, ?_⟩
  · obtain ⟨y, hy, e⟩ := List.mem_map.mp (List.mem_of_mem_drop hx)
    rw [← e]
    exact h.nums y (List.mem_filter.mp hy).1
  · have := h.len
    have := List.length_filter_le (fun x : Int × Int => decide (x.1 ≤ now)) l
    rw [List.length_drop]
    unfold availM
    rw [List.length_map]
    omega
theorem runStep_stand {g : Prog} {l : Lets} {st : RunS} {now : Int} : (runStep g l st now).2.1 = (tickM g st.2.1 ((availM l now).drop st.1.toNat)).a := by unfold runStep; rfl
theorem runStep_used {g : Prog} {l : Lets} {st : RunS} {now : Int} : (runStep g l st now).1 = st.1 + (if decide ((tickM g st.2.1 ((availM l now).drop st.1.toNat)).b = Str.ofString "took") = true then 1 else 0) := by unfold runStep; rfl
theorem run_ok {g : Prog} {s : Stand} {l : Lets} (hg : ProgOk g) (hs : StandOk g s) (hl : LetsOk g l) (xs : List Int) : StandOk g (runF g s l xs).2.1 ∧ 0 ≤ (runF g s l xs).1 := by
  refine rev_indU (P := fun xs => StandOk g (runF g s l xs).2.1 ∧ 0 ≤ (runF g s l xs).1) ?_ (fun xs n ih => ?_) xs
  · rw [run_nil]; exact ⟨hs, Int.le_refl _⟩
  · rw [run_snoc, runStep_stand, runStep_used]
    refine ⟨tick_ok hg ih.1 (avail_ok hl n _).1, ?_⟩
    have := ih.2
    split <;> omega
theorem run_len {g : Prog} {s : Stand} {l : Lets} (xs : List Int) : (runF g s l xs).2.2.2.length = xs.length ∧ (runF g s l xs).2.2.1.length ≤ xs.length := by
  refine rev_indU (P := fun xs => (runF g s l xs).2.2.2.length = xs.length ∧ (runF g s l xs).2.2.1.length ≤ xs.length) ?_ (fun xs n ih => ?_) xs
  · rw [run_nil]; simp
  · rw [run_snoc]
    unfold runStep
    dsimp only
    rw [List.length_append, List.length_append, ih.1]
    refine ⟨rfl, ?_⟩
    have := ih.2
    split
    · rw [List.length_append]; simp; omega
    · simp; omega
theorem run_law {g : Prog} {s : Stand} {l : Lets} {pre : List Int} {now used : Int} {stand : Stand} {said : Said} {touched : Tou} {t : TickR} (hI : (used, stand, said, touched) = runF g s l pre) (ht : t = tickM g stand ((availM l now).drop used.toNat)) :
    (used + (if decide (t.b = Str.ofString "took") = true then 1 else 0), t.a, (if decide (t.b = Str.ofString "said") = true then said ++ [(now, t.c)] else said), touched ++ [(t.d, t.e)]) = runF g s l (pre ++ [now]) := by
  rw [run_snoc, ← hI, ht]
  unfold runStep
  rfl
structure WgI (l : Lets) (used now : Int) (st : List Int × Int) : Prop where
  c0 : 0 ≤ st.2
  c1 : st.2 ≤ l.length
  u1 : used ≤ st.2
  w : st.1 = ((l.take st.2.toNat).map (·.2)).drop used.toNat
  le : ∀ x ∈ l.take st.2.toNat, x.1 ≤ now
theorem WgI.step {l : Lets} {used now : Int} {wt : List Int} {come : Int} (hu : 0 ≤ used) (h : WgI l used now (wt, come)) (hc : come < l.length) (hn : (ix l come).1 ≤ now) : WgI l used now (wt ++ [(ix l come).2], come + 1) := by
  obtain ⟨c0, c1, u1, w, le⟩ := h
  dsimp only at *
  have hlt : come.toNat < l.length := by omega
  have e : (come + 1).toNat = come.toNat + 1 := by omega
  have ei : ix l come = l[come.toNat] := ix_get c0 hlt
  have et : l.take (come.toNat + 1) = l.take come.toNat ++ [ix l come] := by rw [ei, List.take_succ_eq_append_getElem hlt]
  refine ⟨by dsimp only; omega, by dsimp only; omega, by dsimp only; omega, ?_, ?_⟩
  · dsimp only
    rw [e, et, List.map_append, List.drop_append_of_le_length (by rw [List.length_map, List.length_take]; omega), ← w]
    rfl
  · dsimp only
    rw [e, et]
    intro x hx
    rcases List.mem_append.mp hx with q | q
    · exact le x q
    · rw [List.mem_singleton.mp q]; exact hn
theorem filter_take {l : Lets} {now : Int} {k : Nat} (hs : (l.map (·.1)).Pairwise (· ≤ ·)) (h1 : ∀ x ∈ l.take k, x.1 ≤ now) (h2 : ∀ x, l[k]? = some x → now < x.1) : l.filter (fun x => decide (x.1 ≤ now)) = l.take k := by
  induction l generalizing k with
  | nil => simp
  | cons y l ih =>
    rw [List.map_cons, List.pairwise_cons] at hs
    cases k with
    | zero =>
      have h := h2 y rfl
      rw [List.take_zero, List.filter_eq_nil_iff]
      intro x hx
      rcases List.mem_cons.mp hx with e | e
      · rw [e]; simp; omega
      · have := hs.1 x.1 (List.mem_map.mpr ⟨x, e, rfl⟩)
        simp
        omega
    | succ k =>
      have h := h1 y (by simp)
      rw [List.take_succ_cons, List.filter_cons, if_pos (by simp; exact h), ih hs.2 (fun x hx => h1 x (by rw [List.take_succ_cons]; exact List.mem_cons_of_mem _ hx)) (fun x hx => h2 x (by simpa using hx))]
theorem WgI.done {l : Lets} {used now : Int} {wt : List Int} {come : Int} (hs : (l.map (·.1)).Pairwise (· ≤ ·)) (h : WgI l used now (wt, come)) (hc : (decide (come < (l.length : Int)) && decide ((ix l come).1 ≤ now)) = false) : wt = (availM l now).drop used.toNat ∧ l.take come.toNat = l.filter (fun x => decide (x.1 ≤ now)) := by
  obtain ⟨c0, c1, u1, w, le⟩ := h
  dsimp only at *
  have e := filter_take (k := come.toNat) hs le fun x hx => by
    obtain ⟨hlt, e⟩ := List.getElem?_eq_some_iff.mp hx
    have ei : ix l come = l[come.toNat] := ix_get c0 hlt
    rw [ei, e] at hc
    rcases Bool.and_eq_false_iff.mp hc with q | q
    · have := of_decide_eq_false q; omega
    · have := of_decide_eq_false q; omega
  exact ⟨by unfold availM; rw [e]; exact w, e.symm⟩
structure GonI (g : Prog) (s : Stand) (l : Lets) (pre : List Int) (st : List Int × Said × Tou × Int × Stand) : Prop where
  said : st.2.1 = (runF g s l pre).2.2.1
  fnd : st.2.2.1 = (runF g s l pre).2.2.2
  stand : st.2.2.2.2 = (runF g s l pre).2.1
  wg : ∀ now, (∀ p ∈ pre, p < now) → WgI l (runF g s l pre).1 now (st.1, st.2.2.2.1)
theorem GonI.start (g : Prog) (s : Stand) (l : Lets) : GonI g s l [] ([], [], [], 0, s) :=
  ⟨by rw [run_nil], by rw [run_nil], by rw [run_nil], fun now _ => by rw [run_nil]; exact ⟨Int.le_refl _, by dsimp only; omega, Int.le_refl _, by simp, by simp⟩⟩
theorem took_ne {g : Prog} {s : Stand} {l : List Int} (h : decide ((tickM g s l).b = Str.ofString "took") = true) : l ≠ [] := by
  revert h
  refine tick_cases (fun t => decide (t.b = Str.ofString "took") = true → l ≠ []) (fun _ h => ?_) (fun _ _ _ h => ?_) (fun r _ ht h => ?_)
  · exact absurd (of_decide_eq_true h) (show ¬ Str.ofString "ended" = Str.ofString "took" by decide +kernel)
  · exact absurd (of_decide_eq_true h) (show ¬ Str.ofString "waits" = Str.ofString "took" by decide +kernel)
  · have h' : dWo r = Str.ofString "took" := of_decide_eq_true h
    cases r with
    | take p => exact ht rfl
    | say p => exact absurd h' (show ¬ Str.ofString "said" = Str.ofString "took" by decide +kernel)
    | _ => exact absurd h' (show ¬ Str.ofString "did" = Str.ofString "took" by decide +kernel)
theorem GonI.step {g : Prog} {s : Stand} {l : Lets} {pre post : List Int} {now many : Int} {wt0 wt : List Int} {said : Said} {fnd : Tou} {come0 come : Int} {stand : Stand} {t : TickR} (hg : ProgOk g) (hs : StandOk g s) (hl : LetsOk g l) (ex : pre ++ now :: post = rng 0 many)
    (h : GonI g s l pre (wt0, said, fnd, come0, stand)) (hw : WgI l (runF g s l pre).1 now (wt, come)) (he : wt = (availM l now).drop (runF g s l pre).1.toNat) (ht : t = tickM g stand wt) :
    GonI g s l (pre ++ [now]) ((if decide (t.b = Str.ofString "took") = true then wt.drop 1 else wt), (if decide (t.b = Str.ofString "said") = true then said ++ [(now, t.c)] else said), fnd ++ [(t.d, t.e)], come, t.a) := by
  obtain ⟨h1, h2, h3, h4⟩ := h
  dsimp only at h1 h2 h3
  have hu := (run_ok hg hs hl pre).2
  have hr := run_law (s := s) (pre := pre) (now := now) (t := t) (used := (runF g s l pre).1) (stand := stand) (said := said) (touched := fnd) (by rw [h1, h2, h3]) (by rw [ht, he])
  refine ⟨by rw [← hr], by rw [← hr], by rw [← hr], fun now' hn' => ?_⟩
  have hn : now < now' := hn' now (by simp)
  rw [← hr]
  obtain ⟨c0, c1, u1, w, le⟩ := hw
  dsimp only at c0 c1 u1 w le ⊢
  have lt : ((l.take come.toNat).map (fun x : Int × Int => x.2)).length = come.toNat := by rw [List.length_map, List.length_take]; omega
  by_cases hk : decide (t.b = Str.ofString "took") = true
  · have hne := took_ne (by rw [← ht]; exact hk)
    have : (runF g s l pre).1.toNat < come.toNat := by
      have := List.length_pos_iff.mpr hne
      rw [w, List.length_drop, lt] at this
      omega
    rw [if_pos hk, if_pos hk]
    refine ⟨c0, c1, by dsimp only; omega, ?_, fun x hx => by have := le x hx; omega⟩
    dsimp only
    rw [w, List.drop_drop]
    congr 1
    omega
  · rw [if_neg hk, if_neg hk]
    exact ⟨c0, c1, by dsimp only; omega, by dsimp only; rw [Int.add_zero]; exact w, fun x hx => by have := le x hx; omega⟩
end GL
namespace GL
open PySem PySem.Spec PyProof.Rows L2
abbrev RS := List (Int × Tp Int) × Dct Int × Int × List Int
abbrev RR := T3 (List (Int × Tp Int)) Int (Tp Int)
def rdC (most sl : Int) (s : RS) : Bool := !decide (s.2.2.2 = []) && (decide ((s.1.length : Int) < most) && (decide (s.1 = []) || decide (sl < (s.2.2.2.length : Int))))
def rdCop (b tick : Int) (c : Dct Int) (ps : Int × Int) : Dct Int := c.put ps.2 (tick + ps.1 / b)
def rdDue (n : Int) (trace : List (Tp Int)) (copied : Dct Int) (tick : Int) : List Int := ((rng 0 n).filter fun x => ((writtenIn trace 0 tick).get? x).isSome && decide (dix copied x ≤ dix (writtenIn trace 0 tick) x)).map fun x => x
def rdN (n : Int) (trace : List (Tp Int)) (b : Int) (s : RS) : RS :=
  (s.1 ++ [(s.2.2.1, ⟨s.2.2.2⟩)], (enumI s.2.2.2).foldl (rdCop b s.2.2.1) s.2.1, s.2.2.1 + ((s.2.2.2.length : Int) + b - 1) / b, rdDue n trace ((enumI s.2.2.2).foldl (rdCop b s.2.2.1) s.2.1) (s.2.2.1 + ((s.2.2.2.length : Int) + b - 1) / b))
def rdB (n : Int) (trace : List (Tp Int)) (b : Int) (s : RS) : Fl RS RR := .nx (rdN n trace b s)
def rdK (s : RS) : RR := ⟨s.1, s.2.2.1, ⟨s.2.2.2⟩⟩
@[irreducible] def roundsM (n : Int) (trace : List (Tp Int)) (b sl most : Int) : RR := whl (rdC most sl) (rdB n trace b) rdK most.toNat ([], Dct.emp, 0, rng 0 n)
structure RdI (n b most : Int) (s : RS) : Prop where
  due : ∀ x ∈ s.2.2.2, 0 ≤ x ∧ x < n
  len : (s.2.2.2.length : Int) ≤ n
  cov : ∀ x, 0 ≤ x → x < n → (s.2.1.get? x).isSome = true ∨ x ∈ s.2.2.2
  cok : s.2.1.Ok 1000
  t0 : 0 ≤ s.2.2.1
  t1 : s.2.2.1 ≤ 2000 * (s.1.length : Int)
structure RdP (n : Int) (trace : List (Tp Int)) (b most : Int) : Prop where
  n0 : 0 ≤ n
  n1 : n ≤ 1000
  tr : TrOk trace
  b0 : 1 ≤ b
  b1 : b ≤ 1000
  m0 : 0 ≤ most
  m1 : most ≤ 1000
theorem rdC_lt {most sl : Int} {s : RS} (h : rdC most sl s = true) : (s.1.length : Int) < most := by
  unfold rdC at h
  simp only [Bool.and_eq_true, decide_eq_true_eq] at h
  exact h.2.1
theorem cop_ok {b tick : Int} {l : List (Int × Int)} (hl : ∀ p ∈ l, 0 ≤ p.2 ∧ p.2 < 1000) : ∀ {d : Dct Int}, d.Ok 1000 → (l.foldl (rdCop b tick) d).Ok 1000 := by
  induction l with
  | nil => intro d h; exact h
  | cons p l ih =>
    intro d h
    exact ih (fun q hq => hl q (List.mem_cons_of_mem _ hq)) (h.put _ (hl p List.mem_cons_self))
theorem cop_keep {b tick x : Int} {l : List (Int × Int)} : ∀ {d : Dct Int}, (d.get? x).isSome = true → ((l.foldl (rdCop b tick) d).get? x).isSome = true := by
  induction l with
  | nil => intro d h; exact h
  | cons p l ih =>
    intro d h
    refine ih ?_
    unfold rdCop
    rw [Dct.get?_put]
    split
    · rfl
    · exact h
theorem cop_has {b tick x : Int} {l : List (Int × Int)} : ∀ {d : Dct Int}, x ∈ l.map (·.2) → ((l.foldl (rdCop b tick) d).get? x).isSome = true := by
  induction l with
  | nil => intro d h; simp at h
  | cons p l ih =>
    intro d h
    rw [List.map_cons, List.mem_cons] at h
    rcases h with h | h
    · refine cop_keep (d := rdCop b tick d p) ?_
      unfold rdCop
      rw [Dct.get?_put, if_pos h]
      rfl
    · exact ih h
theorem enumI_snd {α : Type} (xs : List α) : (enumI xs).map (·.2) = xs := by
  unfold enumI
  rw [List.map_map]
  show List.map (fun p => p.1) xs.zipIdx = xs
  exact List.zipIdx_map_fst 0 xs
theorem enumI_fst {α : Type} {xs : List α} {p : Int × α} (h : p ∈ enumI xs) : p.2 ∈ xs := List.mem_of_getElem? (mem_enumI.mp h).2
theorem RdI.copOk {n b most : Int} {s : RS} (I : RdI n b most s) (hn : n ≤ 1000) {pre : List (Int × Int)} (h : ∀ p ∈ pre, p ∈ enumI s.2.2.2) : (pre.foldl (rdCop b s.2.2.1) s.2.1).Ok 1000 :=
  cop_ok (fun p hp => by have := I.due p.2 (enumI_fst (h p hp)); omega) I.cok
theorem RdI.covered {n b most : Int} {s : RS} (I : RdI n b most s) {x : Int} (h0 : 0 ≤ x) (h1 : x < n) : (((enumI s.2.2.2).foldl (rdCop b s.2.2.1) s.2.1).get? x).isSome = true := by
  rcases I.cov x h0 h1 with h | h
  · exact cop_keep h
  · exact cop_has (by rw [enumI_snd]; exact h)
theorem due_mem {n tick : Int} {trace : List (Tp Int)} {c : Dct Int} {x : Int} (h : x ∈ rdDue n trace c tick) : 0 ≤ x ∧ x < n := by
  unfold rdDue at h
  rw [List.map_id'] at h
  exact mem_rng.mp (List.mem_filter.mp h).1
theorem div_bound {l b : Int} (hb : 1 ≤ b) (hl : 0 ≤ l) : 0 ≤ (l + b - 1) / b ∧ (l + b - 1) / b ≤ l := by
  refine ⟨Int.ediv_nonneg (by omega) (by omega), ?_⟩
  have h : (l + b - 1) / b < l + 1 := by
    apply Int.ediv_lt_of_lt_mul (by omega)
    have : l * b ≥ l := by
      have := Int.mul_le_mul_of_nonneg_left hb hl
      omega
    rw [Int.add_mul]
    omega
  omega
theorem RdI.next {n b most : Int} {trace : List (Tp Int)} {s : RS} (P : RdP n trace b most) (I : RdI n b most s) : RdI n b most (rdN n trace b s) := by
  have hb := div_bound (l := (s.2.2.2.length : Int)) P.b0 (by omega)
  refine ⟨fun x hx => due_mem hx, ?_, fun x h0 h1 => .inl (I.covered h0 h1), I.copOk P.n1 fun _ h => h, ?_, ?_⟩
  · show ((rdDue n trace _ _).length : Int) ≤ n
    unfold rdDue
    rw [List.length_map]
    have h1 := List.length_filter_le (fun x => ((writtenIn trace 0 (s.2.2.1 + ((s.2.2.2.length : Int) + b - 1) / b)).get? x).isSome && decide (dix ((enumI s.2.2.2).foldl (rdCop b s.2.2.1) s.2.1) x ≤ dix (writtenIn trace 0 (s.2.2.1 + ((s.2.2.2.length : Int) + b - 1) / b)) x)) (rng 0 n)
    rw [len_rng] at h1
    have := P.n0
    omega
  · show 0 ≤ s.2.2.1 + ((s.2.2.2.length : Int) + b - 1) / b
    have := I.t0
    omega
  · show s.2.2.1 + ((s.2.2.2.length : Int) + b - 1) / b ≤ 2000 * ((s.1 ++ [(s.2.2.1, (⟨s.2.2.2⟩ : Tp Int))]).length : Int)
    rw [List.length_append]
    have h1 := I.t1
    have h2 := I.len
    have h3 := P.n1
    simp only [List.length_singleton]
    omega
theorem RdI.start {n b most : Int} (hn : 0 ≤ n) : RdI n b most ([], Dct.emp, 0, rng 0 n) :=
  ⟨fun x hx => mem_rng.mp hx, by show ((rng 0 n).length : Int) ≤ n; rw [len_rng]; omega, fun x h0 h1 => .inr (mem_rng.mpr ⟨h0, h1⟩), Dct.Ok.emp, Int.le_refl _, by show (0 : Int) ≤ 2000 * (0 : Int); omega⟩
end GL
namespace GL
open PySem PySem.Spec PyProof.Rows L2
def lastW (trace : List (Tp Int)) (stop s : Int) : Int := (lastN trace stop.toNat s).getD (-1)
@[irreducible] def lastsM (n : Int) (trace : List (Tp Int)) (stop : Int) : List Int := (rng 0 n).map fun x => lastW trace stop x
theorem lasts_ret {n stop : Int} {trace : List (Tp Int)} : (rng 0 n).map (fun x => ((writtenIn trace 0 stop).get? x).getD (-1)) = lastsM n trace stop := by
  unfold lastsM lastW
  apply List.map_congr_left
  intro x _
  rw [writtenIn_get]
@[irreducible] def lackM (lasts : List Int) (b stop t : Int) : Int := ((lasts.filter fun x => decide (t ≤ x)).length : Int) - b * (stop - t - 1)
theorem lack_ret {lasts : List Int} {b stop t : Int} : (((lasts.filter fun x => decide (t ≤ x)).map fun x => x).length : Int) - b * (stop - t - 1) = lackM lasts b stop t := by
  unfold lackM
  rw [List.length_map]
@[irreducible] def barsM (n : Int) (trace : List (Tp Int)) (b s stop t : Int) : Bool := if -1 ≤ t ∧ t < stop then decide (s < lackM (lastsM n trace stop) b stop t) else false
theorem len_lasts (n : Int) (trace : List (Tp Int)) (stop : Int) : (lastsM n trace stop).length = n.toNat := by
  unfold lastsM
  rw [List.length_map, len_rng, Int.sub_zero]
def lawLastS (trail : List (Tp Int)) (sheet : Int) (found beat : Int) : Int := if decide (sheet ∈ (ix trail beat).l) = true then beat else found
end GL
namespace GL
open PySem PySem.Spec PyProof.Rows L2
def lsStep (ls : List Int) (b stop : Int) (s : Int × Option Int) (t : Int) : Int × Option Int :=
  if decide (t < stop) && decide (s.1 < lackM ls b stop t) then (lackM ls b stop t, some t) else s
def lsFold (ls : List Int) (b stop : Int) : Int × Option Int := (usrt ls).foldl (lsStep ls b stop) (0, none)
@[irreducible] def leastM (n : Int) (trace : List (Tp Int)) (b stop : Int) : Int × Option Int := lsFold (lastsM n trace stop) b stop
@[irreducible] def lawLeastM (n : Int) (trace : List (Tp Int)) (b stop : Int) : Int := maxL ([0] ++ (rng (-1) stop).map fun t => lackM (lastsM n trace stop) b stop t)
structure LsI (ls : List Int) (b stop : Int) (xs : List Int) (s : Int × Option Int) : Prop where
  nn : 0 ≤ s.1
  all : ∀ t ∈ xs, t < stop → lackM ls b stop t ≤ s.1
  nil : s.1 = 0 ↔ s.2 = none
  at_ : ∀ t, s.2 = some t → t ∈ xs ∧ t < stop ∧ lackM ls b stop t = s.1
theorem ls_inv (ls : List Int) (b stop : Int) (xs : List Int) : LsI ls b stop xs (xs.foldl (lsStep ls b stop) (0, none)) := by
  have h : ∀ (ys zs : List Int) (s : Int × Option Int), LsI ls b stop zs s → LsI ls b stop (zs ++ ys) (ys.foldl (lsStep ls b stop) s) := by
    intro ys
    induction ys with
    | nil => intro zs s h; simpa using h
    | cons y ys ih =>
      intro zs s h
      have e : zs ++ y :: ys = (zs ++ [y]) ++ ys := by simp
      rw [e]
      refine ih (zs ++ [y]) _ ?_
      unfold lsStep
      split
      · rename_i hc
        simp only [Bool.and_eq_true, decide_eq_true_eq] at hc
        have := h.nn
        refine ⟨by dsimp only; omega, fun t ht hs => ?_, ⟨fun q => by dsimp only at q; omega, fun q => by cases q⟩, fun t ht => ?_⟩
        · rcases List.mem_append.mp ht with q | q
          · have := h.all t q hs; dsimp only; omega
          · rw [List.mem_singleton.mp q]; exact Int.le_refl _
        · dsimp only at ht
          cases ht
          exact ⟨by simp, hc.1, rfl⟩
      · rename_i hc
        simp only [Bool.and_eq_true, decide_eq_true_eq, not_and] at hc
        refine ⟨h.nn, fun t ht hs => ?_, h.nil, fun t ht => ?_⟩
        · rcases List.mem_append.mp ht with q | q
          · exact h.all t q hs
          · have ey := List.mem_singleton.mp q
            rw [ey] at hs ⊢
            have := hc hs
            omega
        · have := h.at_ t ht
          exact ⟨List.mem_append_left _ this.1, this.2⟩
  have := h xs [] (0, none) ⟨Int.le_refl _, fun t ht => absurd ht (by simp), ⟨fun _ => rfl, fun _ => rfl⟩, fun t ht => by cases ht⟩
  simpa using this
theorem lack_le {ls : List Int} {b stop t : Int} (hb : 0 ≤ b) (h0 : t < stop) (hl : ∀ x ∈ ls, x < stop) : lackM ls b stop t ≤ 0 ∨ ∃ x ∈ ls, x < stop ∧ t ≤ x ∧ lackM ls b stop t ≤ lackM ls b stop x := by
  by_cases hx : ∃ x ∈ ls, t ≤ x
  · -- the least of those not below t
    obtain ⟨x0, hx0, hx1⟩ := hx
    have : ∃ x ∈ ls, t ≤ x ∧ ∀ y ∈ ls, t ≤ y → x ≤ y := by
      have key : ∀ (ys : List Int), (∃ x ∈ ys, t ≤ x) → ∃ x ∈ ys, t ≤ x ∧ ∀ y ∈ ys, t ≤ y → x ≤ y := by
        intro ys
        induction ys with
        | nil => rintro ⟨x, hx, _⟩; simp at hx
        | cons y ys ih =>
          intro hex
          by_cases hr : ∃ x ∈ ys, t ≤ x
          · obtain ⟨x, h1, h2, h3⟩ := ih hr
            by_cases hy : t ≤ y ∧ y ≤ x
            · refine ⟨y, List.mem_cons_self, hy.1, fun z hz hz2 => ?_⟩
              rcases List.mem_cons.mp hz with e | e
              · omega
              · have := h3 z e hz2; omega
            · refine ⟨x, List.mem_cons_of_mem _ h1, h2, fun z hz hz2 => ?_⟩
              rcases List.mem_cons.mp hz with e | e
              · omega
              · exact h3 z e hz2
          · obtain ⟨x, hx, hx2⟩ := hex
            rcases List.mem_cons.mp hx with e | e
            · subst e
              refine ⟨x, List.mem_cons_self, hx2, fun z hz hz2 => ?_⟩
              rcases List.mem_cons.mp hz with e | e
              · omega
              · exact absurd ⟨z, e, hz2⟩ hr
            · exact absurd ⟨x, e, hx2⟩ hr
      exact key ls ⟨x0, hx0, hx1⟩
    obtain ⟨x, h1, h2, h3⟩ := this
    refine .inr ⟨x, h1, hl x h1, h2, ?_⟩
    unfold lackM
    have e : ls.filter (fun y => decide (t ≤ y)) = ls.filter (fun y => decide (x ≤ y)) := by
      apply List.filter_congr
      intro y hy
      by_cases q : t ≤ y
      · rw [decide_eq_true q, decide_eq_true (h3 y hy q)]
      · rw [decide_eq_false q, decide_eq_false (by omega)]
    rw [e]
    have : b * (stop - x - 1) ≤ b * (stop - t - 1) := Int.mul_le_mul_of_nonneg_left (by omega) hb
    omega
  · refine .inl ?_
    unfold lackM
    have e : ls.filter (fun y => decide (t ≤ y)) = [] := by
      apply List.filter_eq_nil_iff.mpr
      intro y hy
      rw [decide_eq_false (fun q => hx ⟨y, hy, q⟩)]
      decide
    rw [e]
    have : 0 ≤ b * (stop - t - 1) := Int.mul_nonneg hb (by omega)
    simp only [List.length_nil]
    omega
theorem lastN_lt (trace : List (Tp Int)) (s : Int) : ∀ n : Nat, -1 ≤ (lastN trace n s).getD (-1) ∧ (lastN trace n s).getD (-1) < n ∧ (lastN trace n s).getD (-1) < trace.length := by
  intro n
  induction n with
  | zero => simp [lastN]; omega
  | succ n ih =>
    rw [lastN]
    by_cases q : s ∈ (trace.getD n ⟨[]⟩).l
    · rw [if_pos q]
      have : n < trace.length := by
        by_cases h : n < trace.length
        · exact h
        · rw [List.getD_eq_getElem?_getD, List.getElem?_eq_none (by omega)] at q
          simp at q
      simp only [Option.getD_some]
      omega
    · rw [if_neg q]
      omega
theorem lasts_bd {n stop x : Int} {trace : List (Tp Int)} (h0 : 0 ≤ stop) (h : x ∈ lastsM n trace stop) : -1 ≤ x ∧ x < stop ∧ x < trace.length := by
  unfold lastsM at h
  obtain ⟨s, _, rfl⟩ := List.mem_map.mp h
  unfold lastW
  have := lastN_lt trace s stop.toNat
  omega
theorem lasts_bd' {n stop x : Int} {trace : List (Tp Int)} (h : x ∈ lastsM n trace stop) : -1 ≤ x := by
  unfold lastsM at h
  obtain ⟨s, _, rfl⟩ := List.mem_map.mp h
  unfold lastW
  have := lastN_lt trace s stop.toNat
  omega
theorem least_spec {n b stop : Int} {trace : List (Tp Int)} (hb : 0 ≤ b) (h0 : 0 ≤ stop) :
    0 ≤ (leastM n trace b stop).1 ∧ (∀ t, t < stop → lackM (lastsM n trace stop) b stop t ≤ (leastM n trace b stop).1) ∧ ((leastM n trace b stop).1 = 0 ↔ (leastM n trace b stop).2 = none) ∧
      ∀ t, (leastM n trace b stop).2 = some t → -1 ≤ t ∧ t < stop ∧ lackM (lastsM n trace stop) b stop t = (leastM n trace b stop).1 := by
  unfold leastM lsFold
  have I := ls_inv (lastsM n trace stop) b stop (usrt (lastsM n trace stop))
  refine ⟨I.nn, fun t ht => ?_, I.nil, fun t ht => ?_⟩
  · rcases lack_le (t := t) (ls := lastsM n trace stop) hb ht (fun x hx => (lasts_bd h0 hx).2.1) with q | ⟨x, hx, hs, ht, q⟩
    · exact Int.le_trans q I.nn
    · exact Int.le_trans q (I.all x (mem_usrt.mpr hx) hs)
  · have := I.at_ t ht
    exact ⟨(lasts_bd' (mem_usrt.mp this.1)), this.2⟩
theorem lawLeast_eq {n b stop : Int} {trace : List (Tp Int)} (hb : 0 ≤ b) (h0 : 0 ≤ stop) : lawLeastM n trace b stop = (leastM n trace b stop).1 := by
  obtain ⟨h1, h2, h3, h4⟩ := least_spec (n := n) (trace := trace) hb h0
  unfold lawLeastM
  refine (maxL_eq ?_ ?_).symm
  · cases e : (leastM n trace b stop).2 with
    | none => rw [h3.mpr e]; simp
    | some t =>
      have := h4 t e
      refine List.mem_append_right _ (List.mem_map.mpr ⟨t, mem_rng.mpr ⟨this.1, this.2.1⟩, this.2.2⟩)
  · intro y hy
    rcases List.mem_append.mp hy with q | q
    · rw [List.mem_singleton.mp q]; exact h1
    · obtain ⟨t, ht, rfl⟩ := List.mem_map.mp q
      exact h2 t (mem_rng.mp ht).2
end GL
namespace GL
open PySem PySem.Spec PyProof.Rows L2
def inT (stop : Int) (t : Int) : Bool := decide (0 ≤ t) && decide (t < stop)
def copStep (stop : Int) (d : Dct Int) (p : Int × Int) : Dct Int := if inT stop p.1 = true then d.put p.2 (max p.1 ((d.get? p.2).getD p.1)) else d
@[irreducible] def copM (copies : List (Int × Int)) (stop : Int) : Dct Int := copies.foldl (copStep stop) Dct.emp
@[irreducible] def leftM (n : Int) (trace : List (Tp Int)) (plan : List (Int × Int) × Int) : List Int := (rng 0 n).filter fun x => !((copM plan.1 plan.2).get? x).isSome || decide (dix (copM plan.1 plan.2) x ≤ ((writtenIn trace 0 plan.2).get? x).getD (-1))
def tks (copies : List (Int × Int)) (stop x : Int) : List Int := (copies.filter fun p => decide (p.2 = x) && inT stop p.1).map (·.1)
theorem lastG (trace : List (Tp Int)) (stop x : Int) : ((writtenIn trace 0 stop).get? x).getD (-1) = lastW trace stop x := by
  unfold lastW
  rw [writtenIn_get]
theorem maxL_snoc {l : List Int} (h : l ≠ []) (x : Int) : maxL (l ++ [x]) = max (maxL l) x := by
  cases l with
  | nil => exact absurd rfl h
  | cons a l =>
    show (l ++ [x]).foldl max a = max (l.foldl max a) x
    rw [List.foldl_append]
    rfl
theorem tks_snoc (copies : List (Int × Int)) (stop x : Int) (p : Int × Int) : tks (copies ++ [p]) stop x = if (decide (p.2 = x) && inT stop p.1) = true then tks copies stop x ++ [p.1] else tks copies stop x := by
  unfold tks
  rw [List.filter_append, List.map_append, List.filter_cons]
  split
  · rfl
  · simp
theorem rev_ind {δ : Type} {P : List δ → Prop} (h0 : P []) (h1 : ∀ l x, P l → P (l ++ [x])) (l : List δ) : P l := by
  have : ∀ l : List δ, P l.reverse := by
    intro l
    induction l with
    | nil => exact h0
    | cons x l ih => rw [List.reverse_cons]; exact h1 _ _ ih
  have q := this l.reverse
  rw [List.reverse_reverse] at q
  exact q
theorem cop_get (stop x : Int) (copies : List (Int × Int)) : (copM copies stop).get? x = if tks copies stop x = [] then none else some (maxL (tks copies stop x)) := by
  unfold copM
  refine rev_ind (P := fun copies => (copies.foldl (copStep stop) Dct.emp).get? x = if tks copies stop x = [] then none else some (maxL (tks copies stop x))) rfl (fun l p ih => ?_) copies
  rw [List.foldl_append, List.foldl_cons, List.foldl_nil, tks_snoc]
  generalize l.foldl (copStep stop) Dct.emp = d at ih ⊢
  unfold copStep
  by_cases h1 : inT stop p.1 = true
  · rw [if_pos h1, Dct.get?_put, h1, Bool.and_true]
    by_cases h2 : p.2 = x
    · rw [if_pos h2.symm, decide_eq_true h2, if_pos rfl, h2, ih]
      by_cases h3 : tks l stop x = []
      · rw [if_pos h3, h3, if_neg (by simp)]
        simp [maxL]
      · rw [if_neg h3, if_neg (by simp), maxL_snoc h3, Option.getD_some, Int.max_comm]
    · rw [if_neg (fun e => h2 e.symm), decide_eq_false h2, if_neg Bool.false_ne_true]
      exact ih
  · rw [if_neg h1, show (decide (p.2 = x) && inT stop p.1) = false by rw [Bool.eq_false_iff.mpr h1, Bool.and_false], if_neg Bool.false_ne_true]
    exact ih
def lfT (trace : List (Tp Int)) (copies : List (Int × Int)) (stop x : Int) : Bool := decide (tks copies stop x = []) || decide (maxL (tks copies stop x) ≤ lastW trace stop x)
theorem left_eq (n : Int) (trace : List (Tp Int)) (plan : List (Int × Int) × Int) : leftM n trace plan = (rng 0 n).filter (lfT trace plan.1 plan.2) := by
  unfold leftM
  apply List.filter_congr
  intro x _
  unfold lfT
  rw [lastG, cop_get]
  by_cases h : tks plan.1 plan.2 x = []
  · rw [if_pos h, decide_eq_true h]; rfl
  · rw [if_neg h, decide_eq_false h]
    have e : dix (copM plan.1 plan.2) x = maxL (tks plan.1 plan.2 x) := dix_of (by rw [cop_get, if_neg h])
    rw [e]
    rfl
theorem left_len (n : Int) (trace : List (Tp Int)) (plan : List (Int × Int) × Int) : (leftM n trace plan).length ≤ n.toNat := by
  rw [left_eq]
  refine Nat.le_trans (List.length_filter_le _ _) ?_
  rw [len_rng]
  omega
def lfStep (trace : List (Tp Int)) (plan : List (Int × Int) × Int) (f : List Int) (x : Int) : List Int := if lfT trace plan.1 plan.2 x = true then f ++ [x] else f
theorem Dct.put_len2 {α : Type} (d : Dct α) (k : Int) (x : α) : (d.put k x).l.length ≤ d.l.length + 1 := by
  unfold Dct.put
  dsimp only
  split
  · rw [List.length_map]; omega
  · rw [List.length_append]; simp
theorem cop_len (stop : Int) : ∀ (l : List (Int × Int)) (d : Dct Int), (l.foldl (copStep stop) d).l.length ≤ d.l.length + l.length
  | [], d => Nat.le_refl _
  | p :: l, d => by
    rw [List.foldl_cons]
    refine Nat.le_trans (cop_len stop l _) ?_
    unfold copStep
    rw [List.length_cons]
    split
    · have := Dct.put_len2 d p.2 (max p.1 ((d.get? p.2).getD p.1))
      omega
    · omega
end GL
namespace GL
open PySem PySem.Spec PyProof.Rows L2
@[irreducible] def dueM (lasts : List Int) (m : Int) : List Int := cutL ((srt2 ((enumI lasts).map fun x => (x.2, x.1))).map fun x => x.2) none (some m)
@[irreducible] def plc (b stop : Int) (xs : List Int) : List (Int × Int) := (enumI xs).map fun p => (stop - 1 - p.1 / b, p.2)
abbrev PlanT := Str × Sum (List (Int × Int)) (Option Int)
@[irreducible] def planM (n : Int) (trace : List (Tp Int)) (b s stop : Int) : PlanT :=
  if decide (s < (leastM n trace b stop).1) = true then (Str.ofString "barred", .inr (leastM n trace b stop).2)
  else (Str.ofString "plan", .inl (srt2 (plc b stop (dueM (lastsM n trace stop) (max 0 (n - s))).reverse)))
def roomF (b stop k t : Int) : Int := if t < stop then max 0 (min b (k - b * (stop - 1 - t))) else 0
def tickF (b stop k : Int) : Int := if k = 0 then stop - 1 else stop - 1 - (k - 1) / b
theorem roomF_0 {b stop t : Int} (hb : 0 < b) : roomF b stop 0 t = 0 := by
  unfold roomF
  split
  · have := Int.mul_nonneg (show 0 ≤ b by omega) (show 0 ≤ stop - 1 - t by omega)
    omega
  · rfl
theorem roomF_succ {b stop k t : Int} (hb : 0 < b) (hk : 0 ≤ k) : roomF b stop (k + 1) t = roomF b stop k t + (if t = stop - 1 - k / b then 1 else 0) := by
  have e1 := Int.mul_ediv_self_le (x := k) (k := b) (by omega)
  have e2 := Int.lt_mul_ediv_self_add (x := k) (k := b) hb
  have e3 : 0 ≤ k / b := Int.ediv_nonneg hk (by omega)
  generalize k / b = q at *
  unfold roomF
  by_cases ht : t < stop
  · rw [if_pos ht, if_pos ht]
    rcases Int.lt_trichotomy (stop - 1 - t) q with h | h | h
    · have := Int.mul_le_mul_of_nonneg_left (show stop - 1 - t + 1 ≤ q by omega) (show 0 ≤ b by omega)
      rw [Int.mul_add, Int.mul_one] at this
      rw [if_neg (by omega)]
      omega
    · rw [if_pos (by omega), h]
      omega
    · have := Int.mul_le_mul_of_nonneg_left (show q + 1 ≤ stop - 1 - t by omega) (show 0 ≤ b by omega)
      rw [Int.mul_add, Int.mul_one] at this
      rw [if_neg (by omega)]
      omega
  · rw [if_neg ht, if_neg ht, if_neg (by omega)]
    rfl
theorem tickF_succ {b stop k : Int} (hk : 0 ≤ k) : tickF b stop (k + 1) = stop - 1 - k / b := by
  unfold tickF
  rw [if_neg (by omega), Int.add_sub_cancel]
theorem plc_snoc (b stop : Int) (xs : List Int) (x : Int) : plc b stop (xs ++ [x]) = plc b stop xs ++ [(stop - 1 - (xs.length : Int) / b, x)] := by
  unfold plc enumI
  rw [List.zipIdx_append, List.map_append, List.map_append]
  simp
structure PlI (b stop : Int) (pre : List Int) (st : List (Int × Int) × Dct Int × Int) : Prop where
  cop : st.1 = plc b stop pre
  room : ∀ t, ((st.2.1.get? t).getD 0) = roomF b stop pre.length t
  few : st.2.1.l.length ≤ pre.length
  tick : st.2.2 = tickF b stop pre.length
theorem PlI.start (b stop : Int) (hb : 0 < b) : PlI b stop [] ([], Dct.emp, stop - 1) :=
  ⟨by unfold plc enumI; rfl, fun t => by show (0 : Int) = roomF b stop ((0 : Nat) : Int) t; rw [show ((0 : Nat) : Int) = 0 from rfl, roomF_0 hb], Nat.le_refl _, by unfold tickF; rfl⟩
theorem Dct.put_len {α : Type} (d : Dct α) (k : Int) (x : α) : (d.put k x).l.length ≤ d.l.length + 1 := by
  unfold Dct.put
  dsimp only
  split
  · rw [List.length_map]; omega
  · rw [List.length_append]; simp
theorem PlI.next {b stop : Int} {pre : List Int} {c : List (Int × Int)} {r : Dct Int} {t t' x : Int} (h : PlI b stop pre (c, r, t)) (hb : 0 < b) (e : t' = stop - 1 - (pre.length : Int) / b) :
    PlI b stop (pre ++ [x]) (c ++ [(t', x)], r.put t' ((r.get? t').getD 0 + 1), t') := by
  have hr := h.room
  have hc := h.cop
  have hf := h.few
  dsimp only at hr hc hf
  have el : ((pre ++ [x]).length : Int) = (pre.length : Int) + 1 := by simp
  refine ⟨?_, fun j => ?_, ?_, ?_⟩
  · dsimp only; rw [plc_snoc, hc, e]
  · dsimp only
    rw [el, roomF_succ hb (by omega), Dct.get?_put, ← e]
    by_cases hj : j = t'
    · rw [if_pos hj, if_pos hj, hr, hj]; rfl
    · rw [if_neg hj, if_neg hj, hr]; omega
  · have := Dct.put_len r t' ((r.get? t').getD 0 + 1)
    simp only [List.length_append, List.length_singleton]
    omega
  · dsimp only; rw [el, tickF_succ (by omega), e]
end GL
namespace GL
open PySem PySem.Spec PyProof.Rows L2
instance : Inhabited (Tp Int) := ⟨⟨[]⟩⟩
abbrev ScanT := Sum (T3 Str Int (List (Int × Int))) (Str × List Int)
def scB (n : Int) (trace : List (Tp Int)) (b s : Int) (found : List Int) (stop : Int) : Fl (List Int) ScanT :=
  if decide ((planM n trace b s stop).1 = Str.ofString "plan") = true then .rt (.inl ⟨Str.ofString "stop", stop, lG (planM n trace b s stop).2⟩) else .nx (found ++ [(rG (planM n trace b s stop).2).getD default])
@[irreducible] def scanM (w : Str) (n : Int) (trace : List (Tp Int)) (b s m : Int) : ScanT := forL (scB n trace b s) (fun f => .inr (w, f)) (rng 0 m) []
@[irreducible] def longM (lead ring : List (Tp Int)) (stop : Int) : List (Tp Int) := whl (fun f => decide ((f.length : Int) < stop)) (fun f => Fl.nx (f ++ ring)) id stop.toNat lead
def manyM (n : Int) (lead ring : List (Tp Int)) (b : Int) : Int := (lead.length : Int) + (ring.length : Int) + (n + b - 1) / b
@[irreducible] def everM (n : Int) (lead ring : List (Tp Int)) (b s : Int) : ScanT := scanM (Str.ofString "never") n (longM lead ring (manyM n lead ring b)) b s (manyM n lead ring b)
end GL
namespace GL
open PySem PySem.Spec PyProof.Rows L2
end GL
namespace GL
open PySem PySem.Spec PyProof.Rows L2
theorem ceil_le {n b j : Int} (hb : 0 < b) : (n + b - 1) / b ≤ j ↔ n ≤ b * j := by
  have e1 := Int.mul_ediv_self_le (x := n + b - 1) (k := b) (by omega)
  have e2 := Int.lt_mul_ediv_self_add (x := n + b - 1) (k := b) hb
  generalize (n + b - 1) / b = q at *
  constructor
  · intro h
    have := Int.mul_le_mul_of_nonneg_left h (show 0 ≤ b by omega)
    omega
  · intro h
    by_cases g : q ≤ j
    · exact g
    · have := Int.mul_le_mul_of_nonneg_left (show j + 1 ≤ q by omega) (show 0 ≤ b by omega)
      rw [Int.mul_add, Int.mul_one] at this
      omega
abbrev wholeT (n : Int) : Tp Int := ⟨rng 0 n⟩
instance {α β γ : Type} [Inhabited α] [Inhabited β] [Inhabited γ] : Inhabited (T3 α β γ) := ⟨⟨default, default, default⟩⟩
end GL
namespace GL
open PySem PySem.Spec PyProof.Rows L2
section
variable {n b most : Int} (hn : 1 ≤ n) (hb : 1 ≤ b)
include hn hb
end
end GL
namespace GL
open PySem PySem.Spec PyProof.Rows L2
theorem lastN_lt10 (T : List (Tp Int)) (x : Int) : ∀ k : Nat, (lastN T k x).getD (-1) < k
  | 0 => by show (-1 : Int) < 0; omega
  | k + 1 => by
    rw [lastN]
    split
    · show (k : Int) < ((k + 1 : Nat) : Int); omega
    · have := lastN_lt10 T x k; omega
theorem lastW_lt {T : List (Tp Int)} {k x : Int} (h : 0 ≤ k) : lastW T k x < k := by
  have := lastN_lt10 T x k.toNat
  unfold lastW
  omega
theorem lastW_next {T : List (Tp Int)} {k x : Int} (h : 0 ≤ k) : lastW T (k + 1) x = if x ∈ (T.getD k.toNat ⟨[]⟩).l then k else lastW T k x := by
  unfold lastW
  rw [show (k + 1).toNat = k.toNat + 1 by omega, lastN]
  split
  · show ((k.toNat : Nat) : Int) = k; omega
  · rfl
structure Fr (T : List (Tp Int)) (fresh : Dct Bool) (cop : Dct Int) (beat : Int) : Prop where
  iff : ∀ x, (fresh.get? x).isSome = true ↔ ∃ c, cop.get? x = some c ∧ lastW T beat x < c
  le : ∀ x c, cop.get? x = some c → 0 ≤ c ∧ c ≤ beat
  ok : fresh.Ok 1000
theorem Fr.start (T : List (Tp Int)) : Fr T Dct.emp Dct.emp 0 := ⟨fun x => ⟨fun h => absurd h Bool.false_ne_true, fun ⟨c, h, _⟩ => (nomatch h)⟩, fun x c h => (nomatch h), Dct.Ok.emp⟩
theorem Fr.put {T : List (Tp Int)} {fresh : Dct Bool} {cop : Dct Int} {beat x : Int} (h : Fr T fresh cop beat) (h0 : 0 ≤ beat) (hx : 0 ≤ x ∧ x < 1000) : Fr T (fresh.put x true) (cop.put x beat) beat := by
  refine ⟨fun y => ?_, fun y c hc => ?_, h.ok.put _ hx⟩
  · rw [Dct.get?_put, Dct.get?_put]
    by_cases e : y = x
    · rw [if_pos e, if_pos e]
      exact ⟨fun _ => ⟨beat, rfl, lastW_lt h0⟩, fun _ => rfl⟩
    · rw [if_neg e, if_neg e]
      exact h.iff y
  · rw [Dct.get?_put] at hc
    by_cases e : y = x
    · rw [if_pos e] at hc
      have : beat = c := Option.some.inj hc
      omega
    · rw [if_neg e] at hc
      exact h.le y c hc
theorem get?_dels (x : Int) : ∀ (l : List Int) (d : Dct Bool), (l.foldl (fun f y => f.del y) d).get? x = if x ∈ l then none else d.get? x
  | [], d => by simp
  | y :: l, d => by
    rw [List.foldl_cons, get?_dels x l, Dct.get?_del]
    by_cases h : x ∈ l
    · rw [if_pos h, if_pos (List.mem_cons_of_mem _ h)]
    · rw [if_neg h]
      by_cases e : x = y
      · rw [if_pos e, if_pos (by rw [e]; exact List.mem_cons_self)]
      · rw [if_neg e, if_neg (fun q => (List.mem_cons.mp q).elim e h)]
theorem dels_ok : ∀ (l : List Int) {d : Dct Bool}, d.Ok 1000 → (l.foldl (fun f y => f.del y) d).Ok 1000
  | [], d, h => h
  | y :: l, d, h => dels_ok l (h.del y)
theorem Fr.row {T : List (Tp Int)} {fresh : Dct Bool} {cop : Dct Int} {beat : Int} (h : Fr T fresh cop beat) (h0 : 0 ≤ beat) : Fr T ((T.getD beat.toNat ⟨[]⟩).l.foldl (fun f y => f.del y) fresh) cop (beat + 1) := by
  refine ⟨fun y => ?_, fun y c hc => by have := h.le y c hc; omega, dels_ok _ h.ok⟩
  rw [get?_dels, lastW_next h0]
  by_cases e : y ∈ (T.getD beat.toNat ⟨[]⟩).l
  · rw [if_pos e, if_pos e]
    refine ⟨fun z => absurd z Bool.false_ne_true, fun ⟨c, hc, q⟩ => ?_⟩
    have := h.le y c hc
    omega
  · rw [if_neg e, if_neg e]
    exact h.iff y
structure DuT (T : List (Tp Int)) (b tick : Int) (W : List Int) (cop0 : Dct Int) (beat : Int) (q : Nat) (fresh : Dct Bool) (waits : List Int) : Prop where
  w : waits = W.drop q
  f : Fr T fresh (((enumI W).take q).foldl (rdCop b tick) cop0) beat
theorem enum_take {W : List Int} {q : Nat} (h : q < W.length) : (enumI W).take (q + 1) = (enumI W).take q ++ [((q : Int), W[q])] := by
  rw [List.take_add_one]
  congr 1
  unfold enumI
  rw [List.getElem?_map, List.getElem?_zipIdx, List.getElem?_eq_getElem h]
  simp
theorem DuT.next {T : List (Tp Int)} {b tick : Int} {W : List Int} {cop0 : Dct Int} {beat : Int} {q : Nat} {fresh : Dct Bool} {waits : List Int} (I : DuT T b tick W cop0 beat q fresh waits) (hW : ∀ x ∈ W, 0 ≤ x ∧ x < 1000) (h0 : 0 ≤ beat) (hq : q < W.length) (hj : tick + (q : Int) / b = beat) : DuT T b tick W cop0 beat (q + 1) (fresh.put (ix waits 0) true) (waits.drop 1) := by
  have e : ix waits 0 = W[q] := by
    rw [I.w]
    unfold ix
    rw [List.getD_eq_getElem?_getD, show (0 : Int).toNat = 0 from rfl, List.getElem?_drop, Nat.add_zero, List.getElem?_eq_getElem hq]
    rfl
  refine ⟨by rw [I.w, List.drop_drop], ?_⟩
  rw [enum_take hq, List.foldl_append, List.foldl_cons, List.foldl_nil, e]
  show Fr T _ (Dct.put _ W[q] (tick + (q : Int) / b)) beat
  rw [hj]
  exact I.f.put h0 (hW _ (List.getElem_mem hq))
def DuI (T : List (Tp Int)) (b tick : Int) (W : List Int) (cop0 : Dct Int) (st : Dct Bool × Int × List Int) : Prop :=
  ∃ j p : Nat, st.2.1 = tick + j ∧ p ≤ W.length ∧ p ≤ j * b.toNat ∧ (p < W.length → p = j * b.toNat) ∧ (0 < j → (j - 1) * b.toNat < W.length) ∧ DuT T b tick W cop0 st.2.1 p st.1 st.2.2
theorem DuI.start {T : List (Tp Int)} {b tick : Int} {W : List Int} {cop0 : Dct Int} {fresh : Dct Bool} (h : Fr T fresh cop0 tick) : DuI T b tick W cop0 (fresh, tick, W) :=
  ⟨0, 0, by show tick = tick + ((0 : Nat) : Int); omega, Nat.zero_le _, by omega, fun _ => by omega, fun h => absurd h (by omega), ⟨rfl, h⟩⟩
theorem DuI.fin {T : List (Tp Int)} {b tick : Int} {W : List Int} {cop0 : Dct Int} {fresh : Dct Bool} {beat : Int} {waits : List Int} (I : DuI T b tick W cop0 (fresh, beat, waits)) (hb : 1 ≤ b) (hW : W ≠ []) (hw : waits = []) : beat = tick + ((W.length : Int) + b - 1) / b ∧ Fr T fresh ((enumI W).foldl (rdCop b tick) cop0) beat := by
  obtain ⟨j, p, e, h1, h2, h3, h4, h5⟩ := I
  dsimp only at e h5
  have hp : p = W.length := by
    have := h5.w
    rw [hw] at this
    have := congrArg List.length this
    rw [List.length_drop, List.length_nil] at this
    omega
  have hl : 0 < W.length := List.length_pos_iff.mpr hW
  have hj : 0 < j := Nat.pos_of_ne_zero fun z => by rw [z, Nat.zero_mul] at h2; omega
  have h6 := h4 hj
  have hbn : ((b.toNat : Nat) : Int) = b := by omega
  have a1 : ((W.length : Int) + b - 1) / b ≤ j := (ceil_le (by omega)).mpr (by
    rw [hp] at h2
    have : ((W.length : Nat) : Int) ≤ ((j * b.toNat : Nat) : Int) := by omega
    rw [Int.natCast_mul, hbn, Int.mul_comm] at this
    exact this)
  have a2 : ¬ ((W.length : Int) + b - 1) / b ≤ j - 1 := fun z => by
    have := (ceil_le (n := (W.length : Int)) (b := b) (j := (j : Int) - 1) (by omega)).mp z
    have h7 : (((j - 1) * b.toNat : Nat) : Int) < ((W.length : Nat) : Int) := by omega
    rw [Int.natCast_mul, hbn, Int.mul_comm, show ((j - 1 : Nat) : Int) = (j : Int) - 1 by omega] at h7
    omega
  refine ⟨by omega, ?_⟩
  have h8 := h5.f
  rw [hp, ← len_enumI, List.take_length] at h8
  exact h8
theorem DuI.step {T : List (Tp Int)} {b tick : Int} {W : List Int} {cop0 : Dct Int} {beat : Int} {j p m : Nat} {fresh : Dct Bool} {waits : List Int} (hb : 1 ≤ b) (h0 : 0 ≤ beat) (e : beat = tick + j) (hp : p < W.length) (hpj : p = j * b.toNat) (hm : (m : Int) = min b ((W.length - p : Nat) : Int)) (I : DuT T b tick W cop0 beat (p + m) fresh waits) :
    DuI T b tick W cop0 ((T.getD beat.toNat ⟨[]⟩).l.foldl (fun f y => f.del y) fresh, beat + 1, waits) := by
  have hs : (j + 1) * b.toNat = j * b.toNat + b.toNat := Nat.succ_mul j b.toNat
  refine ⟨j + 1, p + m, by show beat + 1 = tick + ((j + 1 : Nat) : Int); omega, by omega, by omega, fun z => by omega, fun _ => by rw [Nat.add_sub_cancel]; omega, ⟨I.w, I.f.row h0⟩⟩
def DoI (n : Int) (T : List (Tp Int)) (b s most : Int) (st : Dct Bool × List (Int × Tp Int) × Int × List Int) : Prop :=
  ∃ (m : Nat) (cop : Dct Int), roundsM n T b s most = whl (rdC most s) (rdB n T b) rdK m (st.2.1, cop, st.2.2.1, st.2.2.2) ∧ RdI n b most (st.2.1, cop, st.2.2.1, st.2.2.2) ∧ most ≤ st.2.1.length + m ∧ Fr T st.1 cop st.2.2.1 ∧ (st.2.1 = [] → st.2.2.2 ≠ [])
def dueC (most s : Int) (st : Dct Bool × List (Int × Tp Int) × Int × List Int) : Bool := decide (st.2.1 = []) || (decide ((st.2.1.length : Int) < most) && decide (s < (st.2.2.2.length : Int)))
theorem DoI.start {n : Int} {T : List (Tp Int)} {b s most : Int} (hn : 1 ≤ n) (hm : 1 ≤ most) : DoI n T b s most (Dct.emp, [], 0, rng 0 n) :=
  ⟨most.toNat, Dct.emp, by unfold roundsM; rfl, RdI.start (by omega), by show most ≤ ((([] : List (Int × Tp Int)).length : Nat) : Int) + (most.toNat : Int); simp; omega, Fr.start T, fun _ z => by
    have := congrArg List.length z
    rw [len_rng] at this
    simp at this
    omega⟩
theorem due_law {n tick : Int} {T : List (Tp Int)} {fresh : Dct Bool} {cop : Dct Int} (h : Fr T fresh cop tick) (hc : ∀ x, 0 ≤ x → x < n → (cop.get? x).isSome = true) : (rng 0 n).filter (fun x => !(fresh.get? x).isSome) = rdDue n T cop tick := by
  unfold rdDue
  rw [List.map_id']
  apply List.filter_congr
  intro x hx
  have hx' := mem_rng.mp hx
  obtain ⟨c, hcx⟩ := Option.isSome_iff_exists.mp (hc x hx'.1 hx'.2)
  have hd : dix cop x = c := dix_of hcx
  have h1 := h.iff x
  have h2 := h.le x c hcx
  have h3 := lastG T tick x
  rw [hd]
  cases e : (writtenIn T 0 tick).get? x with
  | none =>
    rw [e] at h3
    have h4 : lastW T tick x = -1 := h3.symm
    have : (fresh.get? x).isSome = true := h1.mpr ⟨c, hcx, by omega⟩
    rw [this]
    rfl
  | some t =>
    rw [e] at h3
    have h4 : t = lastW T tick x := h3
    have h5 : dix (writtenIn T 0 tick) x = t := dix_of e
    rw [h5]
    by_cases q : t < c
    · rw [h1.mpr ⟨c, hcx, by omega⟩, decide_eq_false (by omega)]
      rfl
    · have : (fresh.get? x).isSome = false := Bool.eq_false_iff.mpr fun z => by
        obtain ⟨c', e1, e2⟩ := h1.mp z
        rw [hcx] at e1
        cases e1
        omega
      rw [this, decide_eq_true (by omega)]
      rfl
theorem DoI.next {n : Int} {T : List (Tp Int)} {b s most : Int} {fresh fresh' : Dct Bool} {found : List (Int × Tp Int)} {beat beat' : Int} {waits : List Int} {m : Nat} {cop : Dct Int} (P : RdP n T b most)
    (h1 : roundsM n T b s most = whl (rdC most s) (rdB n T b) rdK m (found, cop, beat, waits)) (h2 : RdI n b most (found, cop, beat, waits)) (h3 : most ≤ found.length + m) (hc : rdC most s (found, cop, beat, waits) = true)
    (hb : beat' = beat + ((waits.length : Int) + b - 1) / b) (hf : Fr T fresh' ((enumI waits).foldl (rdCop b beat) cop) beat') :
    DoI n T b s most (fresh', found ++ [(beat, ⟨waits⟩)], beat', (rng 0 n).filter (fun x => !(fresh'.get? x).isSome)) := by
  have hlt := rdC_lt hc
  dsimp only at hlt
  have e : rdN n T b (found, cop, beat, waits) = (found ++ [(beat, ⟨waits⟩)], (enumI waits).foldl (rdCop b beat) cop, beat', (rng 0 n).filter (fun x => !(fresh'.get? x).isSome)) := by
    rw [due_law hf fun x x0 x1 => h2.covered x0 x1]
    subst hb
    rfl
  cases m with
  | zero => omega
  | succ m =>
    refine ⟨m, (enumI waits).foldl (rdCop b beat) cop, ?_, ?_, ?_, hf, fun z => absurd z (by simp)⟩
    · have := whl_nx h1 hc rfl
      rw [e] at this
      exact this
    · have := h2.next P
      rw [e] at this
      exact this
    · show most ≤ (((found ++ [(beat, (⟨waits⟩ : Tp Int))]).length : Nat) : Int) + (m : Int)
      rw [List.length_append, List.length_singleton]
      omega
end GL
namespace GL
open PySem PySem.Spec PyProof.Rows L2
variable {C : Addr}
theorem get?_delL (x : Int) (l : List Int) (d : Dct Bool) : (l.foldl Dct.del d).get? x = if x ∈ l then none else d.get? x := get?_dels x l d
def NoLack (z : Car C) : Prop := ∀ p, (z.absent.get? p).isSome = false
theorem noLack_emp {z : Car C} (h : z.absent.l = []) : NoLack z := fun p => by
  unfold Dct.get?
  rw [h]
  rfl
theorem noLack_lks {z : Car C} (h : NoLack z) : lksM z = [] := by
  unfold lksM
  split
  · rfl
  · rw [List.filter_eq_nil_iff]
    intro p _
    rw [h p]
    decide
theorem tickC_goes {z : Car C} (h0 : z.still = false) (h1 : lksM z = []) : tickC z = (⟨(tickM z.g z.st z.wait).b, [(tickM z.g z.st z.wait).c]⟩, wentM z (tickM z.g z.st z.wait)) := (tick_end h0 h1 rfl rfl).symm
structure CarRun (g : Prog) (s : Stand) (l : Lets) (t av : Int) (z : Car C) : Prop where
  gg : z.g = g
  st : z.st = (runF g s l (rng 0 t)).2.1
  wait : z.wait = (availM l av).drop (runF g s l (rng 0 t)).1.toNat
  done : z.done = t
  sl : (z.said.length : Int) ≤ t
theorem CarRun.ok {g : Prog} {s : Stand} {l : Lets} {t av : Int} {z : Car C} (h : CarRun g s l t av z) (hg : ProgOk g) (hs : StandOk g s) (hl : LetsOk g l) (ht : t ≤ 100000) : CarOk z := by
  obtain ⟨h1, h2, h3, h4, h5⟩ := h
  have ha := avail_ok hl av (runF g s l (rng 0 t)).1.toNat
  exact ⟨by rw [h1]; exact hg, by rw [h1, h2]; exact (run_ok hg hs hl _).1, by rw [h1, h3]; exact ha.1, by rw [h3]; exact ha.2, by omega⟩
theorem run_next {g : Prog} {s : Stand} {l : Lets} {t : Int} (ht : 0 ≤ t) : runF g s l (rng 0 (t + 1)) = runStep g l (runF g s l (rng 0 t)) t := by rw [rng_succ ht, run_snoc]
theorem CarRun.went {g : Prog} {s : Stand} {l : Lets} {t : Int} {z : Car C} (h : CarRun g s l t t z) (ht : 0 ≤ t) (h0 : ((runF g s l (rng 0 t)).1) ≥ 0) : CarRun g s l (t + 1) t (wentM z (tickM z.g z.st z.wait)) := by
  obtain ⟨h1, h2, h3, h4, h5⟩ := h
  have e : tickM z.g z.st z.wait = tickM g (runF g s l (rng 0 t)).2.1 ((availM l t).drop (runF g s l (rng 0 t)).1.toNat) := by rw [h1, h2, h3]
  refine ⟨h1, ?_, ?_, ?_, ?_⟩
  · rw [run_next ht, runStep_stand, ← e]
    rfl
  · rw [run_next ht, runStep_used, ← e]
    show (if decide ((tickM z.g z.st z.wait).b = Str.ofString "took") = true then z.wait.drop 1 else z.wait) = _
    split
    · rw [h3, List.drop_drop]
      congr 1
      omega
    · rw [Int.add_zero, h3]
  · show z.done + 1 = t + 1
    rw [h4]
  · show ((if decide ((tickM z.g z.st z.wait).b = Str.ofString "said") = true then z.said ++ [(tickM z.g z.st z.wait).c.getD default] else z.said).length : Int) ≤ t + 1
    split
    · rw [List.length_append]
      show ((z.said.length + 1 : Nat) : Int) ≤ t + 1
      omega
    · omega
def lastC (cps : List (Int × Int)) (p : Int) : Option Int := ((cps.filter fun c => decide (c.2 = p)).map (·.1)).getLast?
def freshB (cps : List (Int × Int)) (tou : Tou) (p : Int) : Bool := match lastC cps p with
  | none => false
  | some k => ((rng k tou.length).filter fun j => decide (p ∈ (ix tou j).2.l)).isEmpty
theorem lastC_mem {cps : List (Int × Int)} {p k : Int} (h : lastC cps p = some k) : (k, p) ∈ cps := by
  unfold lastC at h
  have := List.mem_of_getLast? h
  obtain ⟨c, hc, e⟩ := List.mem_map.mp this
  have h2 := List.mem_filter.mp hc
  have e2 : c.2 = p := by simpa using h2.2
  rw [← e, ← e2]
  exact h2.1
theorem fresh_tick {cps : List (Int × Int)} {tou : Tou} {x : Tp Int × Tp Int} {p : Int} (h : ∀ c ∈ cps, 0 ≤ c.1 ∧ c.1 ≤ tou.length) : freshB cps (tou ++ [x]) p = (freshB cps tou p && !decide (p ∈ x.2.l)) := by
  unfold freshB
  cases e : lastC cps p with
  | none => rfl
  | some k =>
    have hk := h _ (lastC_mem e)
    dsimp only at hk ⊢
    rw [List.length_append, show ((tou.length + [x].length : Nat) : Int) = (tou.length : Int) + 1 by simp, rng_succ hk.2, List.filter_append]
    have e1 : (rng k tou.length).filter (fun j => decide (p ∈ (ix (tou ++ [x]) j).2.l)) = (rng k tou.length).filter (fun j => decide (p ∈ (ix tou j).2.l)) := by
      refine List.filter_congr fun j hj => ?_
      have hj' := mem_rng.mp hj
      unfold ix
      rw [List.getD_eq_getElem?_getD, List.getD_eq_getElem?_getD, List.getElem?_append_left (by omega)]
    have e2 : ix (tou ++ [x]) (tou.length : Int) = x := by
      unfold ix
      rw [List.getD_eq_getElem?_getD, Int.toNat_natCast, List.getElem?_append_right (Nat.le_refl _), Nat.sub_self]
      rfl
    rw [e1]
    by_cases c : p ∈ x.2.l
    · rw [List.filter_cons, e2, if_pos (by simpa using c), decide_eq_true c]
      simp
    · rw [List.filter_cons, e2, if_neg (by simpa using c), decide_eq_false c]
      simp
structure Going (h : Int) (cps : List (Int × Int)) (tou : Tou) (z : Car C) : Prop where
  goal : z.goal = some h
  still : z.still = false
  ab : z.absent.l = []
  made : z.made = cps.length
  fr : ∀ p, (z.fresh.get? p).isSome = freshB cps tou p
  fl : z.fresh.l.length ≤ cps.length
theorem dels_len : ∀ (l : List Int) (d : Dct Bool), (l.foldl Dct.del d).l.length ≤ d.l.length
  | [], d => Nat.le_refl _
  | p :: l, d => Nat.le_trans (dels_len l (d.del p)) del_len
theorem Going.went {h : Int} {cps : List (Int × Int)} {tou : Tou} {z : Car C} {t : TickR} (k : Going h cps tou z) (hc : ∀ c ∈ cps, 0 ≤ c.1 ∧ c.1 ≤ tou.length) : Going h cps (tou ++ [(t.d, t.e)]) (wentM z t) := by
  obtain ⟨h1, h2, h3, h4, h5, h6⟩ := k
  refine ⟨h1, h2, ?_, h4, fun q => ?_, ?_⟩
  · show (t.e.l.foldl Dct.del z.absent).l = []
    have := dels_len t.e.l z.absent
    rw [h3] at this
    exact List.eq_nil_of_length_eq_zero (by simpa using this)
  · show ((t.e.l.foldl Dct.del z.fresh).get? q).isSome = _
    rw [get?_delL, fresh_tick hc, ← h5 q]
    by_cases e : q ∈ t.e.l
    · rw [if_pos e, decide_eq_true e]; simp
    · rw [if_neg e, decide_eq_false e]; simp
  · exact Nat.le_trans (dels_len _ _) h6
theorem run_tou {g : Prog} {s : Stand} {l : Lets} {t : Int} (ht : 0 ≤ t) : (runF g s l (rng 0 (t + 1))).2.2.2 = (runF g s l (rng 0 t)).2.2.2 ++ [((tickM g (runF g s l (rng 0 t)).2.1 ((availM l t).drop (runF g s l (rng 0 t)).1.toNat)).d, (tickM g (runF g s l (rng 0 t)).2.1 ((availM l t).drop (runF g s l (rng 0 t)).1.toNat)).e)] := by
  rw [run_next ht]
  unfold runStep
  rfl
theorem tou_lenI {g : Prog} {s : Stand} {l : Lets} {t : Int} (ht : 0 ≤ t) : ((runF g s l (rng 0 t)).2.2.2.length : Int) = t := by
  rw [(run_len _).1, len_rng]
  omega
theorem go_tick {g : Prog} {s : Stand} {l : Lets} {t h : Int} {cps : List (Int × Int)} {z : Car C} (hs : StandOk g s) (hg : ProgOk g) (hl : LetsOk g l) (ht : 0 ≤ t) (k1 : CarRun g s l t t z) (k2 : Going h cps (runF g s l (rng 0 t)).2.2.2 z) (hc : ∀ c ∈ cps, 0 ≤ c.1 ∧ c.1 ≤ t) :
    CarRun g s l (t + 1) t (tickC z).2 ∧ Going h cps (runF g s l (rng 0 (t + 1))).2.2.2 (tickC z).2 ∧ (tickC z).2.houses = z.houses ∧ (tickC z).2.place = z.place := by
  rw [tickC_goes k2.still (noLack_lks (noLack_emp k2.ab))]
  have e : tickM z.g z.st z.wait = tickM g (runF g s l (rng 0 t)).2.1 ((availM l t).drop (runF g s l (rng 0 t)).1.toNat) := by rw [k1.gg, k1.st, k1.wait]
  refine ⟨k1.went ht (run_ok hg hs hl _).2, ?_, rfl, rfl⟩
  rw [run_tou ht, ← e]
  refine k2.went fun c h => ?_
  have h1 := hc c h
  have h2 := tou_lenI (g := g) (s := s) (l := l) ht
  omega
theorem lf_eq {z : Car C} {cps : List (Int × Int)} {tou : Tou} {h : Int} (k : Going h cps tou z) : lfM z = (rng 0 z.g.a).filter fun p => !freshB cps tou p := by
  unfold lfM
  exact List.filter_congr fun p _ => by rw [k.fr p]
end GL
namespace GL
open PySem PySem.Spec PyProof.Rows L2
theorem filter_pre {l : Lets} {now : Int} (hs : (l.map (·.1)).Pairwise (· ≤ ·)) : l.filter (fun x => decide (x.1 ≤ now)) = l.take (l.filter (fun x => decide (x.1 ≤ now))).length := by
  induction l with
  | nil => rfl
  | cons y l ih =>
    rw [List.map_cons, List.pairwise_cons] at hs
    by_cases h : y.1 ≤ now
    · rw [List.filter_cons, if_pos (by simp; exact h), List.length_cons, List.take_succ_cons, ← ih hs.2]
    · have e : (y :: l).filter (fun x => decide (x.1 ≤ now)) = [] := by
        rw [List.filter_eq_nil_iff]
        intro x hx
        rcases List.mem_cons.mp hx with e | e
        · rw [e]; simp; omega
        · have := hs.1 x.1 (List.mem_map.mpr ⟨x, e, rfl⟩)
          simp
          omega
      rw [e]; rfl
theorem used_nn (g : Prog) (s : Stand) (l : Lets) (xs : List Int) : 0 ≤ (runF g s l xs).1 := by
  refine rev_indU (P := fun xs => 0 ≤ (runF g s l xs).1) ?_ (fun xs n ih => ?_) xs
  · rw [run_nil]; exact Int.le_refl _
  · rw [run_snoc, runStep_used]; split <;> omega
theorem used_ok {g : Prog} {s : Stand} {l : Lets} (hs : (l.map (·.1)).Pairwise (· ≤ ·)) (n : Nat) : (runF g s l (rng 0 n)).1 ≤ l.length ∧ ∀ x ∈ l.take (runF g s l (rng 0 n)).1.toNat, x.1 < n := by
  induction n with
  | zero =>
    rw [rng_nil (by omega), run_nil]
    exact ⟨by dsimp only; omega, by simp⟩
  | succ n ih =>
    have e : ((n + 1 : Nat) : Int) = (n : Int) + 1 := by omega
    rw [e, rng_succ (by omega), run_snoc, runStep_used]
    have h0 := used_nn g s l (rng 0 n)
    generalize hu : (runF g s l (rng 0 n)).1 = u at *
    by_cases hk : decide ((tickM g (runF g s l (rng 0 ↑n)).2.1 ((availM l ↑n).drop u.toNat)).b = Str.ofString "took") = true
    · rw [if_pos hk]
      have hne := List.length_pos_iff.mpr (took_ne hk)
      rw [List.length_drop] at hne
      have hf := filter_pre (l := l) (now := n) hs
      have hc : (availM l n).length = (l.filter (fun x => decide (x.1 ≤ (n : Int)))).length := by unfold availM; rw [List.length_map]
      have hle := List.length_filter_le (fun x : Int × Int => decide (x.1 ≤ (n : Int))) l
      refine ⟨by omega, fun x hx => ?_⟩
      have hx2 : x ∈ l.take (l.filter (fun x => decide (x.1 ≤ (n : Int)))).length := (List.take_sublist_take_left (show (u + 1).toNat ≤ _ by omega)).mem hx
      rw [← hf] at hx2
      have := of_decide_eq_true (List.mem_filter.mp hx2).2
      omega
    · rw [if_neg hk, Int.add_zero]
      exact ⟨ih.1, fun x hx => by have := ih.2 x hx; omega⟩
@[irreducible] def restM (l : Lets) (at_ used : Int) : Lets := (cutL l (some used) none).map (fun x => (max 0 (x.1 - at_), x.2))
end GL
namespace GL
open PySem PySem.Spec PyProof.Rows L2
def spCR {α : Type} [PyA α] (K : Fg) (C : Addr) (R : α → Car C → Prop) (pre : α → Prop) : Sp := fun vs H Q _ => ∃ (S : Hp) (a : α), Same S H ∧ PyA.rep K S vs a ∧ pre a ∧
  ∀ (z : Car C) S' H', R a z → Grow S H S' H' → (∀ p ∈ z.fp, H p = none ∧ S' p = none) → Own.own K S' H' (.ref z.a) z.fp z → Q (.ref z.a) H'
section
variable {P : Program} {w : World} {K : Fg} {mg : Str → Option Value} {base : Heap} {α : Type} [Sls α] {C : Addr}
end
section
variable {C : Addr} {K : Fg} {B S0 S1 S S' D : Hp} {σ : L2.St} {H H' : Hp} {F : Nat → List Addr} {G G' G1 G2 : List Sl} {i j : Nat} {t : TA} {u : TS} {E : Ends} {Ex Ex' : XK} {m : Str}
variable {α β : Type} [PyA α] [Py β] {a : α} {R : α → Car C → Prop} {pre' : α → Prop} {f : Car C → Unit → β × Car C} {pre : Car C → Unit → Prop} {z : Car C}
end
end GL
namespace GL
open PySem PySem.Spec PyProof.Rows L2
variable {C : Addr}
def letStep (now : Int) (z : Car C) (x : Int × Int) : Car C := if decide (x.1 = now) = true then letterC z x.2 else z
def cpyStep (now : Int) (z : Car C) (x : Int × Int) : Car C := if decide (x.1 = now) = true then copyC z x.2 else z
theorem lets_fold (now : Int) : ∀ (l : Lets) (z : Car C), l.foldl (letStep now) z = { z with wait := z.wait ++ (l.filter fun x => decide (x.1 = now)).map (·.2) }
  | [], z => by simp
  | x :: l, z => by
    rw [List.foldl_cons, lets_fold now l]
    unfold letStep
    by_cases e : x.1 = now
    · rw [if_pos (by simpa using e), List.filter_cons, if_pos (by simpa using e)]
      unfold letterC
      simp
    · rw [if_neg (by simpa using e), List.filter_cons, if_neg (by simpa using e)]
structure Cpd (now : Int) (l : List (Int × Int)) (z z' : Car C) : Prop where
  g : z'.g = z.g
  st : z'.st = z.st
  wait : z'.wait = z.wait
  said : z'.said = z.said
  done : z'.done = z.done
  goal : z'.goal = z.goal
  still : z'.still = z.still
  ab : z'.absent = z.absent
  pl : z'.place = z.place
  ho : z'.houses = z.houses
  made : z'.made = z.made + ((l.filter fun c => decide (c.1 = now)).length : Int)
  fr : ∀ p, (z'.fresh.get? p).isSome = (decide ((now, p) ∈ l) || (z.fresh.get? p).isSome)
  fl : (z'.fresh.l.length : Int) ≤ z.fresh.l.length + ((l.filter fun c => decide (c.1 = now)).length : Int)
theorem cpy_fold (now : Int) (l : List (Int × Int)) (z : Car C) : Cpd now l z (l.foldl (cpyStep now) z) := by
  refine rev_indU (P := fun l => Cpd now l z (l.foldl (cpyStep now) z)) ⟨rfl, rfl, rfl, rfl, rfl, rfl, rfl, rfl, rfl, rfl, by simp, fun p => by simp, by simp⟩ (fun l x ih => ?_) l
  rw [List.foldl_append, List.foldl_cons, List.foldl_nil]
  generalize l.foldl (cpyStep now) z = y at ih ⊢
  obtain ⟨h1, h2, h3, h4, h5, h6, h7, h8, h9, h10, h11, h12, h13⟩ := ih
  unfold cpyStep
  by_cases e : x.1 = now
  · rw [if_pos (by simpa using e)]
    unfold copyC
    have hlen : ((l ++ [x]).filter fun c => decide (c.1 = now)).length = (l.filter fun c => decide (c.1 = now)).length + 1 := by
      rw [List.filter_append, List.length_append, List.filter_cons, if_pos (by simpa using e)]
      rfl
    refine ⟨h1, h2, h3, h4, h5, h6, h7, h8, h9, h10, ?_, fun p => ?_, ?_⟩
    · show y.made + 1 = _
      rw [h11, hlen]
      omega
    · show ((y.fresh.put x.2 true).get? p).isSome = _
      rw [Dct.get?_put]
      by_cases q : p = x.2
      · rw [if_pos q]
        have : (now, p) ∈ l ++ [x] := by rw [← e, q]; simp
        rw [decide_eq_true this]; rfl
      · rw [if_neg q, h12 p]
        have : ((now, p) ∈ l ++ [x]) ↔ (now, p) ∈ l := by
          rw [List.mem_append, List.mem_singleton]
          exact ⟨fun h => h.elim id fun h => absurd (congrArg Prod.snd h) q, .inl⟩
        rw [decide_eq_decide.mpr this]
    · have := put_len (d := y.fresh) (k := x.2) (x := true)
      show ((y.fresh.put x.2 true).l.length : Int) ≤ _
      rw [hlen]
      omega
  · rw [if_neg (by simpa using e)]
    have hlen : ((l ++ [x]).filter fun c => decide (c.1 = now)) = (l.filter fun c => decide (c.1 = now)) := by
      rw [List.filter_append, List.filter_cons, if_neg (by simpa using e), List.filter_nil, List.append_nil]
    refine ⟨h1, h2, h3, h4, h5, h6, h7, h8, h9, h10, by rw [hlen]; exact h11, fun p => ?_, by rw [hlen]; exact h13⟩
    have : ((now, p) ∈ l ++ [x]) ↔ (now, p) ∈ l := by
      rw [List.mem_append, List.mem_singleton]
      exact ⟨fun h => h.elim id fun h => absurd (congrArg Prod.fst h).symm e, .inl⟩
    rw [h12 p, decide_eq_decide.mpr this]
theorem tks_next {cps : List (Int × Int)} {t p x : Int} (ht : 0 ≤ t) : x ∈ tks cps (t + 1) p ↔ x ∈ tks cps t p ∨ (x = t ∧ (t, p) ∈ cps) := by
  unfold tks inT
  simp only [List.mem_map, List.mem_filter, Bool.and_eq_true, decide_eq_true_eq]
  constructor
  · rintro ⟨c, ⟨hc, h1, h2, h3⟩, rfl⟩
    by_cases e : c.1 = t
    · right; exact ⟨e, by rw [← e, ← h1]; exact hc⟩
    · left; exact ⟨c, ⟨hc, h1, h2, by omega⟩, rfl⟩
  · rintro (⟨c, ⟨hc, h1, h2, h3⟩, rfl⟩ | ⟨rfl, hc⟩)
    · exact ⟨c, ⟨hc, h1, h2, by omega⟩, rfl⟩
    · exact ⟨(x, p), ⟨hc, rfl, ht, by omega⟩, rfl⟩
theorem tks_lt {cps : List (Int × Int)} {t p x : Int} (h : x ∈ tks cps t p) : 0 ≤ x ∧ x < t := by
  unfold tks inT at h
  simp only [List.mem_map, List.mem_filter, Bool.and_eq_true, decide_eq_true_eq] at h
  obtain ⟨c, ⟨_, _, h2, h3⟩, rfl⟩ := h
  exact ⟨h2, h3⟩
theorem lf_iff {T : List (Tp Int)} {cps : List (Int × Int)} {t p : Int} : lfT T cps t p = false ↔ ∃ x ∈ tks cps t p, lastW T t p < x := by
  unfold lfT
  rw [Bool.or_eq_false_iff, decide_eq_false_iff_not, decide_eq_false_iff_not]
  constructor
  · rintro ⟨h1, h2⟩
    exact ⟨maxL (tks cps t p), maxL_mem h1, by omega⟩
  · rintro ⟨x, hx, h⟩
    refine ⟨fun e => ?_, ?_⟩
    · rw [e] at hx; cases hx
    · have := le_maxL hx
      omega
theorem lf_next {T : List (Tp Int)} {cps : List (Int × Int)} {t p : Int} (ht : 0 ≤ t) : (!lfT T cps (t + 1) p) = ((decide ((t, p) ∈ cps) || !lfT T cps t p) && !decide (p ∈ (T.getD t.toNat ⟨[]⟩).l)) := by
  have key : lfT T cps (t + 1) p = false ↔ (((t, p) ∈ cps ∨ lfT T cps t p = false) ∧ p ∉ (T.getD t.toNat ⟨[]⟩).l) := by
    rw [lf_iff, lf_iff, lastW_next ht]
    by_cases hw : p ∈ (T.getD t.toNat ⟨[]⟩).l
    · rw [if_pos hw]
      constructor
      · rintro ⟨x, hx, h⟩
        have := tks_lt hx
        omega
      · rintro ⟨_, h⟩
        exact absurd hw h
    · rw [if_neg hw]
      constructor
      · rintro ⟨x, hx, h⟩
        refine ⟨?_, hw⟩
        rcases (tks_next ht).mp hx with q | q
        · exact .inr ⟨x, q, h⟩
        · exact .inl q.2
      · rintro ⟨q | ⟨x, hx, h⟩, _⟩
        · exact ⟨t, (tks_next ht).mpr (.inr ⟨rfl, q⟩), lastW_lt ht⟩
        · exact ⟨x, (tks_next ht).mpr (.inl hx), h⟩
  cases h1 : lfT T cps (t + 1) p with
  | false =>
    obtain ⟨q, hw⟩ := key.mp h1
    rw [decide_eq_false hw]
    rcases q with q | q
    · rw [decide_eq_true q]; rfl
    · rw [q]; simp
  | true =>
    by_cases hw : p ∈ (T.getD t.toNat ⟨[]⟩).l
    · rw [decide_eq_true hw]; simp
    · have hn : ¬ ((t, p) ∈ cps ∨ lfT T cps t p = false) := fun q => by
        have := key.mpr ⟨q, hw⟩
        rw [h1] at this
        cases this
      have h2 : lfT T cps t p = true := by
        cases e : lfT T cps t p with
        | true => rfl
        | false => exact absurd (.inr e) hn
      rw [decide_eq_false (fun q => hn (.inl q)), h2]
      rfl
theorem inT_next {cps : List (Int × Int)} {t : Int} (ht : 0 ≤ t) : (cps.filter fun c => inT (t + 1) c.1).length = (cps.filter fun c => inT t c.1).length + (cps.filter fun c => decide (c.1 = t)).length := by
  induction cps with
  | nil => rfl
  | cons c cps ih =>
    rw [List.filter_cons, List.filter_cons, List.filter_cons]
    have hi : inT (t + 1) c.1 = (inT t c.1 || decide (c.1 = t)) := by
      unfold inT
      by_cases h0 : 0 ≤ c.1 <;> by_cases h1 : c.1 < t <;> by_cases h2 : c.1 = t <;> simp [h0, h1, h2] <;> omega
    rw [hi]
    by_cases h1 : inT t c.1 = true
    · have h2 : ¬ c.1 = t := by
        unfold inT at h1
        simp only [Bool.and_eq_true, decide_eq_true_eq] at h1
        omega
      rw [h1, decide_eq_false h2]
      simp
      omega
    · have h1' : inT t c.1 = false := by simpa using h1
      by_cases h2 : c.1 = t
      · rw [h1', decide_eq_true h2]
        simp
        omega
      · rw [h1', decide_eq_false h2]
        simp
        omega
theorem avail_now {l : Lets} {t : Int} (hs : (l.map (·.1)).Pairwise (· ≤ ·)) : availM l t = availM l (t - 1) ++ (l.filter fun x => decide (x.1 = t)).map (·.2) := by
  unfold availM
  rw [← List.map_append]
  congr 1
  induction l with
  | nil => rfl
  | cons x l ih =>
    rw [List.map_cons, List.pairwise_cons] at hs
    rw [List.filter_cons, List.filter_cons, List.filter_cons, ih hs.2]
    by_cases h1 : x.1 ≤ t - 1
    · rw [if_pos (by simp; omega), if_pos (by simp; omega), if_neg (by simp; omega)]
      rfl
    · have hn : l.filter (fun x => decide (x.1 ≤ t - 1)) = [] := by
        rw [List.filter_eq_nil_iff]
        intro y hy
        have := hs.1 y.1 (List.mem_map.mpr ⟨y, hy, rfl⟩)
        simp
        omega
      by_cases h2 : x.1 = t
      · rw [if_pos (by simp; omega), if_neg (by simp; omega), if_pos (by simpa using h2), hn]
        rfl
      · rw [if_neg (by simp; omega), if_neg (by simp; omega), if_neg (by simpa using h2)]
theorem used_le {g : Prog} {s : Stand} {l : Lets} {t : Int} (hs : (l.map (·.1)).Pairwise (· ≤ ·)) (ht : 0 ≤ t) : (runF g s l (rng 0 t)).1.toNat ≤ (availM l (t - 1)).length := by
  have h := used_ok (g := g) (s := s) hs t.toNat
  rw [show ((t.toNat : Nat) : Int) = t by omega] at h
  have h0 := used_nn g s l (rng 0 t)
  generalize (runF g s l (rng 0 t)).1 = u at *
  have hf : (l.take u.toNat).filter (fun x => decide (x.1 ≤ t - 1)) = l.take u.toNat := by
    rw [List.filter_eq_self]
    intro x hx
    have := h.2 x hx
    simp
    omega
  have h2 : ((l.take u.toNat).filter (fun x => decide (x.1 ≤ t - 1))).length ≤ (l.filter (fun x => decide (x.1 ≤ t - 1))).length := ((List.take_sublist _ _).filter _).length_le
  rw [hf, List.length_take] at h2
  unfold availM
  rw [List.length_map]
  omega
structure LIC (g : Prog) (s : Stand) (l : Lets) (cps : List (Int × Int)) (T : List (Tp Int)) (t : Int) (z : Car C) : Prop where
  run : CarRun g s l t (t - 1) z
  goal : z.goal = some 1
  still : z.still = false
  ab : z.absent.l = []
  pl : z.place = 0
  made : z.made = ((cps.filter fun c => inT t c.1).length : Int)
  fr : ∀ p, (z.fresh.get? p).isSome = !lfT T cps t p
  fl : (z.fresh.l.length : Int) ≤ z.made
theorem tks_zero (cps : List (Int × Int)) (p : Int) : tks cps 0 p = [] := by
  cases h : tks cps 0 p with
  | nil => rfl
  | cons x l =>
    have := tks_lt (cps := cps) (t := 0) (p := p) (x := x) (by rw [h]; exact List.mem_cons_self)
    omega
theorem LIC.start {g : Prog} {s : Stand} {l : Lets} {cps : List (Int × Int)} {T : List (Tp Int)} {z z' : Car C} (h : ∃ a w s_ f b, z = Car.mk a w s_ f b g s 2 0 [] [] 0 none false Dct.emp 0 Dct.emp) (hb : BegR z 1 z') (hl : ∀ x ∈ l, 0 ≤ x.1) : LIC g s l cps T 0 z' := by
  obtain ⟨a, w, s_, f, b, rfl⟩ := h
  obtain ⟨f', rfl⟩ := hb
  have ha : availM l (0 - 1) = [] := by
    unfold availM
    rw [List.map_eq_nil_iff, List.filter_eq_nil_iff]
    intro x hx
    have := hl x hx
    simp
    omega
  refine ⟨⟨rfl, by rw [rng_nil (Int.le_refl _), run_nil], by rw [ha]; simp, rfl, by simp⟩, rfl, rfl, rfl, rfl, ?_, fun p => ?_, by simp [Dct.emp]⟩
  · have : (cps.filter fun c => inT 0 c.1) = [] := by
      rw [List.filter_eq_nil_iff]
      intro c _
      unfold inT
      simp
    rw [this]
    rfl
  · have : lfT T cps 0 p = true := by unfold lfT; rw [tks_zero]; rfl
    rw [this]
    rfl
theorem LIC.next {g : Prog} {s : Stand} {l : Lets} {cps : List (Int × Int)} {T : List (Tp Int)} {t : Int} {z : Car C} (hg : ProgOk g) (hs : StandOk g s) (hl : LetsOk g l) (ht : 0 ≤ t) (h : LIC g s l cps T t z)
    (hT : T.getD t.toNat ⟨[]⟩ = (tickM g (runF g s l (rng 0 t)).2.1 ((availM l t).drop (runF g s l (rng 0 t)).1.toNat)).e) : LIC g s l cps T (t + 1) (tickC (cps.foldl (cpyStep t) (l.foldl (letStep t) z))).2 ∧ CarRun g s l t t (cps.foldl (cpyStep t) (l.foldl (letStep t) z)) := by
  obtain ⟨h1, h2, h3, h4, h5, h6, h7, h8⟩ := h
  rw [lets_fold]
  obtain ⟨c1, c2, c3, c4, c5, c6, c7, c8, c9, c10, c11, c12, c13⟩ := cpy_fold t cps ({ z with wait := z.wait ++ (l.filter fun x => decide (x.1 = t)).map (·.2) } : Car C)
  generalize cps.foldl (cpyStep t) ({ z with wait := z.wait ++ (l.filter fun x => decide (x.1 = t)).map (·.2) } : Car C) = y at *
  dsimp only at c1 c2 c3 c4 c5 c6 c7 c8 c9 c10 c11 c12 c13
  have hr : CarRun g s l t t y := by
    refine ⟨c1.trans h1.gg, c2.trans h1.st, ?_, c5.trans h1.done, by rw [c4]; exact h1.sl⟩
    rw [c3, h1.wait, avail_now (t := t) hl.srt, List.drop_append_of_le_length (used_le hl.srt ht)]
  have e : tickM y.g y.st y.wait = tickM g (runF g s l (rng 0 t)).2.1 ((availM l t).drop (runF g s l (rng 0 t)).1.toNat) := by rw [hr.gg, hr.st, hr.wait]
  have hab : y.absent.l = [] := by rw [c8]; exact h4
  refine ⟨?_, hr⟩
  rw [tickC_goes (c7.trans h3) (noLack_lks (noLack_emp hab))]
  have hw := hr.went ht (run_ok hg hs hl _).2
  refine ⟨by rw [show t + 1 - 1 = t by omega]; exact hw, c6.trans h2, c7.trans h3, ?_, c9.trans h5, ?_, fun p => ?_, ?_⟩
  · show ((tickM y.g y.st y.wait).e.l.foldl Dct.del y.absent).l = []
    have := dels_len (tickM y.g y.st y.wait).e.l y.absent
    rw [hab] at this
    exact List.eq_nil_of_length_eq_zero (by simpa using this)
  · show y.made = _
    rw [c11, h6, inT_next ht]
    omega
  · show (((tickM y.g y.st y.wait).e.l.foldl Dct.del y.fresh).get? p).isSome = _
    rw [get?_delL, lf_next ht, ← h7 p, ← c12 p, e, hT]
    by_cases q : p ∈ (tickM g (runF g s l (rng 0 t)).2.1 ((availM l t).drop (runF g s l (rng 0 t)).1.toNat)).e.l
    · rw [if_pos q, decide_eq_true q]; simp
    · rw [if_neg q, decide_eq_false q]; simp
  · show (((tickM y.g y.st y.wait).e.l.foldl Dct.del y.fresh).l.length : Int) ≤ y.made
    have := dels_len (tickM y.g y.st y.wait).e.l y.fresh
    omega
def trcM (g : Prog) (s : Stand) (l : Lets) (many : Int) : List (Tp Int) := (runM g s l many).c.map fun x => x.2
theorem LIC.left {g : Prog} {s : Stand} {l : Lets} {cps : List (Int × Int)} {T : List (Tp Int)} {t : Int} {z : Car C} (h : LIC g s l cps T t z) : lfM z = leftM g.a T (cps, t) := by
  rw [left_eq]
  unfold lfM
  rw [h.run.gg]
  exact List.filter_congr fun p _ => by rw [h.fr p, Bool.not_not]
end GL
namespace GL
open PySem PySem.Spec PyProof.Rows L2
end GL
namespace GL
open PySem PySem.Spec PyProof.Rows L2
variable {C : Addr}
end GL
namespace L2
open PySem PySem.W PySem.Spec PyProof.Rows
set_option maxHeartbeats 1000000 in
theorem meets_enumT {v : Value} {ob : Obj} {Hh : Heap → Prop} (Bg : Begins v ob Hh) :
    Meets (Builtin.«enumerate.__new__» ⟨[.type "enumerate", v], []⟩) (fun _ R s => Hh s.heap ∧
      R (.ok (.ret (.ref (s.heap.push ob).objs.size))) { s with heap := (s.heap.push ob).push { cls := .type "enumerate", data := .fields #[.none, .bool false, .ref s.heap.objs.size, rawInt 0, .none, .none] } }) :=
  .of_wp fun pr ww AA R s hyp => by
    obtain ⟨h0, g0, d0, t0, o0⟩ := s
    obtain ⟨hh1, hyp⟩ := hyp
    have hsb := sub_enumerate
    have step1 : ∀ {A1 : Around} {E1 : Value → Shared → Prop} {Q1 : Value → Shared → Prop}, Q1 (.ref h0.objs.size) ⟨h0.push ob, g0, d0, t0, o0⟩ → wpAny (model pr ww) A1 (pyIter v) Q1 E1 ⟨h0, g0, d0, t0, o0⟩ :=
      fun qq => Bg.iter pr ww _ _ ⟨h0, g0, d0, t0, o0⟩ _ hh1 qq
    wp_walk using step1
    refine wpAny_stack_any fun stk => wpAny_pure ?_
    split
    · rename_i cc _ _ _ _ _
      cases (cc == Value.type "enumerate")
      · wp_walk using step1
        exact ⟨_, rfl, hyp⟩
      · wp_walk using step1
        exact ⟨_, rfl, hyp⟩
    · wp_walk using step1
      exact ⟨_, rfl, hyp⟩
section
variable {pr : Program} {ww : World} {AA : Around} {EE : Value → Shared → Prop} {s : Shared}
theorem call_enumT {v : Value} {ob : Obj} {Hh : Heap → Prop} {Q : Value → Shared → Prop} (Bg : Begins v ob Hh) (hh1 : Hh s.heap)
    (hyp : ∀ hp, IsEnum hp (s.heap.objs.size + 1) s.heap.objs.size 0 .none → hp.get? s.heap.objs.size = some ob → hp.objs.size = s.heap.objs.size + 2 →
      (∀ b q, s.heap.get? b = some q → hp.get? b = some q) → Q (.ref (s.heap.objs.size + 1)) { s with heap := hp }) : wpAny (model pr ww) AA (call (.type "enumerate") [v]) Q EE s := by
  refine callType_new F.called_enumerate (by decide) (F.typeCall_enumerate_1 _) (F.newCall_enumerate_1 _) (fun oj => F.args_object_init_2 oj _) F.entry_enumerate_new (meets_enumT Bg) ⟨hh1, ?_⟩
  have zs : (s.heap.push ob).objs.size = s.heap.objs.size + 1 := Heap.size_push ..
  show _ ∧ _
  rw [zs]
  have en : IsEnum ((s.heap.push ob).push { cls := .type "enumerate", data := .fields #[.none, .bool false, .ref s.heap.objs.size, rawInt 0, .none, .none] }) (s.heap.objs.size + 1) s.heap.objs.size 0 .none := by
    have z2 := Heap.get?_push_size (s.heap.push ob) (o := { cls := .type "enumerate", data := .fields #[.none, .bool false, .ref s.heap.objs.size, rawInt 0, .none, .none] }) rfl
    rw [zs] at z2; exact z2
  refine ⟨⟨_, en, rfl⟩, hyp _ en (Heap.get?_push_of_some _ (Heap.get?_push_size _ Bg.free)) (by rw [Heap.size_push, zs]) fun b q y => Heap.get?_push_of_some _ (Heap.get?_push_of_some _ y)⟩
theorem next_enumT_end {e it t : Addr} {i : Nat} {items : Array Value} {c : Int} {old : Value} {Q : Option Value → Shared → Prop} (hh : AA.handled = none) (he : IsEnum s.heap e it c old) (hit : s.heap.IsTupleIter it t i) (ht : s.heap.IsTuple t items) (hx : items[i]? = none)
    (hQ : ∀ hp, Heap.ExtBut it s.heap hp → Q none { s with heap := hp }) : wpAny (model pr ww) AA (pyNext (.ref e)) Q EE s := by
  have tyE : s.TypeIs (.ref e) "enumerate" := ⟨_, he, rfl⟩
  unfold pyNext
  refine wpAny_bind (wpAny_attempt (wpAny_callSpecial?_slot (name := Str.ofString "__next__") tyE F.slot_enumerate_next (wpAny_call_entry F.slot_enumerate_next tyE F.entry_enumerate_next ?_ (F.args_enumerate_next_1 _))))
  show wpAny _ _ (field (.ref e) 2 >>= _) _ _ _
  refine wpAny_bind (wpAny_field he rfl (x := .ref it) rfl ?_)
  refine wpAny_bind (wpAny_nextOf_tuple_end (A := AA.in1) hh hit ht hx fun hp x xb so => ?_)
  obtain ⟨ob, gb, cb⟩ := so
  exact wpAny_bind (wpAny_isInstance (T := "StopIteration") (b := true) ⟨ob, gb, cb⟩ isSubtype_stop (wpAny_pure (hQ _ xb)))
end
def IteT (K : PySem.W.Frag) (a : Addr) (ws : List V) : It :=
  ⟨fun i H => SqT K H a ws ∧ ∃ x, ws[i]? = some x, fun i H v H' => ∃ T x, v = .ref T ∧ H T = none ∧ H' = upd H T (.tup [.int (i : Nat), x]) ∧ ws[i]? = some x, fun i H => SqT K H a ws ∧ ws.length ≤ i⟩
theorem turn_enumT {P : Program} {w : World} {K : PySem.W.Frag} {elts : List Expr} {kk : Nat} {tpos : Pos} (a e it : Addr) (ws : List V) :
    Turn P w K (.Tuple elts kk tpos) (IteT K a ws) [e, it] e (fun i h => (∃ old, IsEnum h e it ((i : Nat) : Int) old) ∧ h.IsTupleIter it a i ∧ e ≠ it ∧ e ≠ a ∧ a ≠ it) where
  mem := by simp
  obj := fun i h st b hb => by
    obtain ⟨⟨old, he⟩, ⟨oi, gi, ci, di⟩, _⟩ := st
    rcases (show b = e ∨ b = it by simpa using hb) with z | z
    · rw [z]; exact ⟨_, he, fun v q => nomatch q⟩
    · rw [z]; exact ⟨oi, gi, fun v q => by rw [di] at q; cases q⟩
  keep := fun i h h' st k => by
    obtain ⟨⟨old, he⟩, hi, n1, n2, n3⟩ := st
    exact ⟨⟨old, k e (by simp) _ he⟩, hi.at fun q y => k it (by simp) q y, n1, n2, n3⟩
  item := by
    intro X pP pw pK hc i pins s σ H E I hf st hg
    subst pP pw pK
    obtain ⟨⟨old, he⟩, hit, n1, n2, n3⟩ := st
    obtain ⟨hq, x, hx⟩ := hg
    obtain ⟨its, rv, ip, hz⟩ := I.tuple hq
    obtain ⟨u, hu, ru⟩ := rv.get hx
    have le_e : e < s.heap.objs.size := Heap.lt_size he
    have le_i : it < s.heap.objs.size := by obtain ⟨_, y, _⟩ := hit; exact Heap.lt_size y
    have lti : i < its.toArray.size := by
      have := (List.getElem?_eq_some_iff.mp hu).1
      simpa using this
    refine wpAny_pyNext_enum_itemD (Draws.tuple (A := X.A.in1) (I.ok.hd hc) it a n3 its.toArray) he ⟨hit, ip⟩ lti n1 (by simp [n1, n2]) fun v hp tk pv eo st2 gT sz kp => ?_
    have ev : v = u := by
      have e1 : its[i]? = some v := by simpa using pv
      rw [hu] at e1
      exact (Option.some.inj e1).symm
    subst ev
    refine ⟨_, rfl, wpAny_letOwnedTupleGo_enum (s := { s with heap := hp, toks := tk + 1 }) eo fun hq2 he2 sb => ?_⟩
    have gT2 : hq2.get? s.heap.objs.size = some { cls := .type "tuple", data := .seq #[.int i tk, v] } := (sb.2 _ (Nat.ne_of_gt le_e)).trans gT
    have okT : ObjOk X.prog X.w (upd H s.heap.objs.size (.tup [.int (i : Nat), x])) hq2 s.heap.objs.size (.tup [.int (i : Nat), x]) :=
      ⟨by show 2 ≤ sizeLine; decide, [.int i tk, v], .cons ⟨_, rfl⟩ (.cons ru .nil), ⟨_, gT2, rfl, _, rfl⟩⟩
    have I1 : Inv X pins σ (upd H s.heap.objs.size (.tup [.int (i : Nat), x])) { s with heap := hq2, toks := tk + 1 } :=
      I.turnedNew (ch := [e, it]) (fun b ob hb y => (sb.2 b (fun z => hb (by simp [z]))).trans (kp b ob (fun z => hb (by simp [z])) (fun z => hb (by simp [z])) y)) hf (Nat.le_refl _) okT
    refine ⟨.ref s.heap.objs.size, _, I1, rfl, ⟨_, x, rfl, I.hok.fresh (Nat.le_refl _), rfl, hx⟩, ⟨⟨v, ?_⟩, st2.1.at fun q y => (sb.2 it n1.symm).trans y, n1, n2, n3⟩, fun b hb => ?_⟩
    · rw [show ((i + 1 : Nat) : Int) = (i : Int) + 1 by omega]; exact he2
    · have lb : b < s.heap.objs.size := by
        rcases (show b = e ∨ b = it by simpa using hb) with z | z
        · rw [z]; exact le_e
        · rw [z]; exact le_i
      rw [upd_ne (Nat.ne_of_lt lb)]
      exact (hf b hb).1
  done := by
    intro X pP pw pK hc i pins s σ H E I hf st hg
    subst pP pw pK
    obtain ⟨⟨old, he⟩, hit, n1, n2, n3⟩ := st
    obtain ⟨hq, hx⟩ := hg
    obtain ⟨its, rv, ip, hz⟩ := I.tuple hq
    obtain ⟨f0, f1, f2, f3, f4, f5⟩ := hf it (by simp)
    have ll := rv.length
    exact next_enumT_end (I.ok.hd hc) he hit ip (by simp; omega) fun hp xb => ⟨rfl, I.turned (t' := s.toks) (fun b q hb y => xb b q hb y) f0 f1 f3 f4 f5⟩
  self := fun A i s Q E st h => by
    obtain ⟨⟨_, he⟩, _⟩ := st
    exact wpAny_pyIter_enum he h
def iEnumT (K : PySem.W.Frag) (ta : TA) : TI := fun σ H R => ta σ H fun vs H1 => ∃ a ws, vs = [.ref a] ∧ SqT K H1 a ws ∧ R (IteT K a ws) H1
theorem pi_enumT {X : Cx} {e : Expr} {ta : TA} {p pos tpos : Pos} {elts : List Expr} {kk : Nat} (hg : Gl X "enumerate") (hm : X.mg "enumerate" = none) (ha : PA X [e] ta) (hs : starEach [e] X.env = [(false, eval e X.env)] := by rfl) :
    PI X (.Tuple elts kk tpos) (.Call (.Name "enumerate" p) [e] [] pos) (iEnumT X.K ta) := by
  refine ⟨fun pins s σ H R I h => ?_⟩
  refine Call_ (ld_blt I hg hm boot_enumerate (PyProof.Rows.callWith_type1 (thn (ha.run pos pins s σ H _ I h) fun us s1 ⟨vs, H1, I1, r1, q1⟩ => ?_) hs rfl))
  obtain ⟨a, ws, rfl, hq, q⟩ := q1
  cases r1 with
  | cons r rr =>
    cases rr
    cases r
    obtain ⟨its, rv, ip, hz⟩ := I1.tuple hq
    have la : a < s1.heap.objs.size := by
      obtain ⟨o, go, _⟩ := (show s1.heap.IsTuple a its.toArray from ip)
      exact Heap.lt_size go
    refine call_enumT (begins_tuple a its.toArray) ip fun hp he gi sz kp => wpAny_pyIter_enum he ?_
    have I2 : Inv X pins σ H1 { s1 with heap := hp } := I1.kept (t' := s1.toks) kp
    refine ⟨s1.heap.objs.size + 1, [s1.heap.objs.size + 1, s1.heap.objs.size], _, _, H1, rfl, I2, turn_enumT a (s1.heap.objs.size + 1) s1.heap.objs.size ws, ⟨⟨.none, he⟩, ⟨_, gi, rfl, rfl⟩, Nat.succ_ne_self _, Nat.ne_of_gt (Nat.lt_succ_of_lt la), Nat.ne_of_lt la⟩, fun b hb => ?_, q⟩
    have lb : s1.heap.objs.size ≤ b := by
      rcases (show b = s1.heap.objs.size + 1 ∨ b = s1.heap.objs.size by simpa using hb) with z | z
      · rw [z]; exact Nat.le_add_right _ _
      · rw [z]; exact Nat.le_refl _
    exact I1.fpOk lb (I1.hok.fresh lb)
end L2
namespace GL
open PySem PySem.Spec PyProof.Rows L2
section
variable {α : Type} [Py α] {K : Fg} {G G1 : List Sl} {ta : TE}
theorem wk_enumT {S : Hp} {p : Addr} {vs : List V} {xs : List α} (hp : SqT K S p vs) (r : RepL K S vs xs) : Wk K (IteT K p vs) S (enumI xs) := fun S' H' i e1 e2 => by
  have h1 : SqT K H' p vs := seqT e2 (seqT e1 hp)
  have hlen : (enumI xs).length = xs.length := by unfold enumI; rw [List.length_map, List.length_zipIdx]
  refine ⟨fun x hx => ?_, fun hl => ⟨h1, by rw [r.len, ← hlen]; exact hl⟩⟩
  have hi : i < xs.length := by
    rw [← hlen]
    exact (List.getElem?_eq_some_iff.mp hx).1
  have ex : x = ((i : Int), xs[i]) := by
    unfold enumI at hx
    rw [List.getElem?_map, List.getElem?_zipIdx, List.getElem?_eq_getElem hi] at hx
    simpa using hx.symm
  subst ex
  obtain ⟨v, hv, rv⟩ := r.get (List.getElem?_eq_getElem hi)
  refine ⟨⟨h1, v, hv⟩, fun w H'' y => ?_⟩
  obtain ⟨T, u, rfl, hT, rfl, e⟩ := y
  rw [hv] at e
  cases e
  have g := Grow.new (o := .tup [.int (i : Nat), v]) e2 hT
  exact ⟨_, g, T, _, v, rfl, SqT.of upd_same, rfl, Py.mono (e1.trans g.s) rv⟩
theorem it_enumT {xs : Tp α} (h : EvX K ta G xs G1) : ItG K (iEnumT K (tCons ta tNil)) G (enumI xs.l) G1 := fun B S0 S σ H F k R q =>
  h B S0 S σ H F k _ fun v S1 H1 e1 k1 r1 => by
    obtain ⟨p, vs, rfl, hp, hr⟩ := r1
    exact ⟨p, vs, rfl, seqT k1.sub hp, q _ S1 H1 e1 k1 (wk_enumT hp hr)⟩
end
end GL
namespace GL
open PySem PySem.Spec PyProof.Rows L2
variable {C : Addr}
@[irreducible] def lawLeft (n : Int) (tou : Tou) (cps : List (Int × Int)) : List Int := (rng 0 n).filter fun p => !freshB cps tou p
theorem lawLeft_fold {n : Int} {tou : Tou} {cps : List (Int × Int)} : lawLeft n tou cps = (rng 0 n).filter fun p => !freshB cps tou p := by unfold lawLeft; rfl
theorem LetsOk.nil (g : Prog) : LetsOk g [] := ⟨.nil, (fun x h => nomatch h), Nat.zero_le _⟩
theorem CarRun.start {g : Prog} {s : Stand} {l : Lets} {av : Int} {z : Car C} (h1 : z.g = g) (h2 : z.st = s) (h3 : z.wait = availM l av) (h4 : z.done = 0) (h5 : z.said = []) : CarRun g s l 0 av z :=
  ⟨h1, by rw [rng_nil (Int.le_refl _), run_nil]; exact h2, by rw [rng_nil (Int.le_refl _), run_nil]; simpa using h3, h4, by rw [h5]; simp⟩
theorem CarRun.av {g : Prog} {s : Stand} {t a b : Int} {z : Car C} (h : CarRun g s [] t a z) : CarRun g s [] t b z := ⟨h.gg, h.st, h.wait, h.done, h.sl⟩
structure LI48 (g : Prog) (s : Stand) (t : Int) (cps : List (Int × Int)) (z : Car C) : Prop where
  run : CarRun g s [] t t z
  go : Going 1 cps (runF g s [] (rng 0 t)).2.2.2 z
  cp : ∀ c ∈ cps, 0 ≤ c.1 ∧ c.1 ≤ t
  pl : z.place = 0
theorem LI48.start {g : Prog} {s : Stand} {z z' : Car C} (h : ∃ a w s_ f b, z = Car.mk a w s_ f b g s 2 0 [] [] 0 none false Dct.emp 0 Dct.emp) (hb : BegR z 1 z') : LI48 g s 0 [] z' := by
  obtain ⟨a, w, s_, f, b, rfl⟩ := h
  obtain ⟨f', rfl⟩ := hb
  refine ⟨CarRun.start rfl rfl rfl rfl rfl, ⟨rfl, rfl, rfl, rfl, fun p => ?_, Nat.le_refl _⟩, (fun c h => nomatch h), rfl⟩
  rfl
theorem LI48.tick {g : Prog} {s : Stand} {t : Int} {cps : List (Int × Int)} {z : Car C} (h : LI48 g s t cps z) (hg : ProgOk g) (hs : StandOk g s) (ht : 0 ≤ t) : LI48 g s (t + 1) cps (tickC z).2 := by
  obtain ⟨h1, h2, h3, h4⟩ := h
  obtain ⟨q1, q2, q3, q4⟩ := go_tick hs hg (LetsOk.nil g) ht h1 h2 h3
  exact ⟨q1.av, q2, fun c hc => by have := h3 c hc; omega, by rw [q4]; exact h4⟩
theorem LI48.left {g : Prog} {s : Stand} {t : Int} {cps : List (Int × Int)} {z : Car C} (h : LI48 g s t cps z) : lfM z = lawLeft g.a (runM g s [] t).c cps := by
  rw [lf_eq h.go, h.run.gg, lawLeft_fold]
  unfold runM
  rfl
structure Over (g : Prog) (s : Stand) (t : Int) (left : List Int) (early : Bool) (z : Car C) : Prop where
  run : CarRun g s [] t t z
  st : z.still = false
  pl : z.place = 1
  ab : ∀ p, (z.absent.get? p).isSome = (early && decide (p ∈ left))
structure BrI (z0 : Car C) (pre : List Int) (z : Car C) : Prop where
  eq : ∃ d, z = { z0 with absent := d }
  ab : ∀ p, (z.absent.get? p).isSome = ((z0.absent.get? p).isSome && !decide (p ∈ pre))
theorem BrI.start (z : Car C) : BrI z [] z := ⟨⟨z.absent, rfl⟩, fun p => by simp⟩
theorem BrI.step {z0 z : Car C} {pre : List Int} {p : Int} (h : BrI z0 pre z) : BrI z0 (pre ++ [p]) (bringC z p) := by
  obtain ⟨⟨d, rfl⟩, h2⟩ := h
  unfold bringC
  refine ⟨⟨_, rfl⟩, fun q => ?_⟩
  show ((d.del p).get? q).isSome = _
  have h3 : (d.get? q).isSome = _ := h2 q
  rw [Dct.get?_del]
  by_cases e : q = p
  · rw [if_pos e]; simp [e]
  · rw [if_neg e, h3]; simp [e]
end GL
namespace GL
open PySem PySem.Spec PyProof.Rows L2
variable {C : Addr}
end GL
namespace GL
open PySem PySem.Spec PyProof.Rows L2
variable {C : Addr}
end GL
namespace GL
open PySem PySem.Spec PyProof.Rows L2
variable {C : Addr}
def cpsR (b : Int) (r : Int × Tp Int) : List (Int × Int) := (enumI r.2.l).map fun x => (r.1 + x.1 / b, x.2)
def cpsOf (b : Int) (told : List (Int × Tp Int)) : List (Int × Int) := told.flatMap (cpsR b)
theorem cpsOf_snoc (b : Int) (told : List (Int × Tp Int)) (r : Int × Tp Int) : cpsOf b (told ++ [r]) = cpsOf b told ++ cpsR b r := by
  unfold cpsOf
  rw [List.flatMap_append]
  simp
theorem cpsR_bd {b tick : Int} {due : List Int} {c : Int × Int} (hb : 1 ≤ b) (h : c ∈ cpsR b (tick, ⟨due⟩)) : tick ≤ c.1 ∧ c.1 < tick + ((due.length : Int) + b - 1) / b := by
  obtain ⟨x, hx, e⟩ := List.mem_map.mp h
  have h2 := mem_enumI.mp hx
  have h3 := (List.getElem?_eq_some_iff.mp h2.2).1
  rw [← e]
  dsimp only at h3 ⊢
  have hx0 := h2.1
  have d0 : 0 ≤ x.1 / b := Int.ediv_nonneg hx0 (by omega)
  refine ⟨by omega, ?_⟩
  have : ¬ ((due.length : Int) + b - 1) / b ≤ x.1 / b := fun z => by
    have q := (ceil_le (n := (due.length : Int)) (b := b) (j := x.1 / b) (by omega)).mp z
    have q2 : b * (x.1 / b) ≤ x.1 := Int.mul_ediv_self_le (by omega)
    omega
  omega
end GL
namespace GL
open PySem PySem.Spec PyProof.Rows L2
variable {C : Addr}
theorem cop_round {b tick stop : Int} {old : List (Int × Int)} {cop : Dct Int} (hb : 1 ≤ b) (h0 : 0 ≤ tick) (ho : ∀ c ∈ old, 0 ≤ c.1 ∧ c.1 < tick) (hc : ∀ x, cop.get? x = (copM old tick).get? x) (W : List Int) (hw : tick + ((W.length : Int) + b - 1) / b ≤ stop) (hs : tick ≤ stop) :
    ∀ x, ((enumI W).foldl (rdCop b tick) cop).get? x = (copM (old ++ cpsR b (tick, ⟨W⟩)) stop).get? x := by
  have htk : ∀ x, tks old stop x = tks old tick x := fun x => by
    unfold tks
    congr 1
    refine List.filter_congr fun c hcm => ?_
    have := ho c hcm
    unfold inT
    rw [decide_eq_true (by omega : c.1 < stop), decide_eq_true (by omega : c.1 < tick)]
  revert hw
  refine rev_indU (P := fun W => tick + ((W.length : Int) + b - 1) / b ≤ stop → ∀ x, ((enumI W).foldl (rdCop b tick) cop).get? x = (copM (old ++ cpsR b (tick, ⟨W⟩)) stop).get? x) (fun _ x => ?_) (fun W w ih hw x => ?_) W
  · show cop.get? x = (copM (old ++ []) stop).get? x
    rw [List.append_nil, hc x, cop_get, cop_get, htk x]
  · have hlen : ((W ++ [w]).length : Int) = (W.length : Int) + 1 := by rw [List.length_append, List.length_singleton]; omega
    rw [hlen] at hw
    have hq : (W.length : Int) / b < (W.length + 1 + b - 1 : Int) / b := by
      have : ¬ ((W.length : Int) + 1 + b - 1) / b ≤ (W.length : Int) / b := fun z => by
        have q := (ceil_le (n := (W.length : Int) + 1) (b := b) (j := (W.length : Int) / b) (by omega)).mp z
        have q2 : b * ((W.length : Int) / b) ≤ (W.length : Int) := Int.mul_ediv_self_le (by omega)
        omega
      omega
    have hmono : ((W.length : Int) + b - 1) / b ≤ ((W.length : Int) + 1 + b - 1) / b := Int.ediv_le_ediv (by omega) (by omega)
    have ih := ih (by omega) x
    have ec : cpsR b (tick, ⟨W ++ [w]⟩) = cpsR b (tick, ⟨W⟩) ++ [(tick + (W.length : Int) / b, w)] := by
      unfold cpsR
      rw [enumI_snoc, List.map_append]
      rfl
    rw [enumI_snoc, List.foldl_append, List.foldl_cons, List.foldl_nil, ec, ← List.append_assoc, cop_get, tks_snoc]
    rw [cop_get] at ih
    show (Dct.put _ w (tick + (W.length : Int) / b)).get? x = _
    have d0 : 0 ≤ (W.length : Int) / b := Int.ediv_nonneg (by omega) (by omega)
    have hin : inT stop (tick + (W.length : Int) / b) = true := by
      unfold inT
      rw [decide_eq_true (by omega), decide_eq_true (by omega)]
      rfl
    rw [Dct.get?_put]
    by_cases e : w = x
    · rw [if_pos e.symm, decide_eq_true e, hin, Bool.and_self, if_pos rfl, if_neg (by simp)]
      congr 1
      refine maxL_eq (by simp) fun y hy => ?_
      rcases List.mem_append.mp hy with q | q
      · unfold tks at q
        obtain ⟨c, hc1, rfl⟩ := List.mem_map.mp q
        have hc2 := (List.mem_filter.mp hc1).1
        rcases List.mem_append.mp hc2 with r | r
        · have := ho c r; omega
        · obtain ⟨k, hk, ek⟩ := List.mem_map.mp r
          have hk2 := mem_enumI.mp hk
          have hk3 := (List.getElem?_eq_some_iff.mp hk2.2).1
          rw [← ek]
          dsimp only at hk3 ⊢
          have : k.1 / b ≤ (W.length : Int) / b := Int.ediv_le_ediv (by omega) (by have := hk2.1; omega)
          omega
      · rw [List.mem_singleton.mp q]; exact Int.le_refl _
    · rw [if_neg (fun z => e z.symm), decide_eq_false e, Bool.false_and, if_neg Bool.false_ne_true]
      exact ih
structure RJ (n b most : Int) (T : List (Tp Int)) (s : RS) : Prop where
  I : RdI n b most s
  len : (s.1.length : Int) ≤ most
  cb : ∀ c ∈ cpsOf b s.1, 0 ≤ c.1 ∧ c.1 < s.2.2.1
  get : ∀ x, s.2.1.get? x = (copM (cpsOf b s.1) s.2.2.1).get? x
  due : s.2.2.2 = leftM n T (cpsOf b s.1, s.2.2.1)
  pref : ∀ r ∈ s.1, r.2.l = leftM n T ((cpsOf b s.1).filter (fun c => decide (c.1 < r.1)), r.1) ∧ 0 ≤ r.1 ∧ r.1 ≤ s.2.2.1
theorem RJ.start {n b most : Int} {T : List (Tp Int)} (hn : 0 ≤ n) (hm : 0 ≤ most) : RJ n b most T ([], Dct.emp, 0, rng 0 n) := by
  refine ⟨RdI.start hn, hm, (fun c h => nomatch h), fun x => ?_, ?_, (fun r h => nomatch h)⟩
  · rw [cop_get]; rfl
  · rw [left_eq]
    symm
    rw [List.filter_eq_self]
    intro x _
    unfold lfT
    rw [tks_zero]
    rfl
theorem RJ.next {n b most sl : Int} {T : List (Tp Int)} {s : RS} (P : RdP n T b most) (h : RJ n b most T s) (hc : rdC most sl s = true) : RJ n b most T (rdN n T b s) := by
  obtain ⟨I, hl, cb, get, due, pref⟩ := h
  have I' := I.next P
  have hlt := rdC_lt hc
  have t0 := I.t0
  have hcb := div_bound (l := (s.2.2.2.length : Int)) P.b0 (by omega)
  have eC : cpsOf b (s.1 ++ [(s.2.2.1, (⟨s.2.2.2⟩ : Tp Int))]) = cpsOf b s.1 ++ cpsR b (s.2.2.1, ⟨s.2.2.2⟩) := cpsOf_snoc b s.1 _
  have hget : ∀ x, ((enumI s.2.2.2).foldl (rdCop b s.2.2.1) s.2.1).get? x = (copM (cpsOf b s.1 ++ cpsR b (s.2.2.1, ⟨s.2.2.2⟩)) (s.2.2.1 + ((s.2.2.2.length : Int) + b - 1) / b)).get? x :=
    cop_round P.b0 t0 cb get s.2.2.2 (Int.le_refl _) (by omega)
  have hcb' : ∀ c ∈ cpsOf b s.1 ++ cpsR b (s.2.2.1, ⟨s.2.2.2⟩), 0 ≤ c.1 ∧ c.1 < s.2.2.1 + ((s.2.2.2.length : Int) + b - 1) / b := fun c hm => by
    rcases List.mem_append.mp hm with q | q
    · have := cb c q; omega
    · have := cpsR_bd P.b0 q; omega
  refine ⟨I', ?_, ?_, ?_, ?_, ?_⟩
  · show ((s.1 ++ [(s.2.2.1, (⟨s.2.2.2⟩ : Tp Int))]).length : Int) ≤ most
    rw [List.length_append, List.length_singleton]
    omega
  · show ∀ c ∈ cpsOf b (s.1 ++ [(s.2.2.1, (⟨s.2.2.2⟩ : Tp Int))]), _
    rw [eC]
    exact hcb'
  · show ∀ x, ((enumI s.2.2.2).foldl (rdCop b s.2.2.1) s.2.1).get? x = (copM (cpsOf b (s.1 ++ [(s.2.2.1, (⟨s.2.2.2⟩ : Tp Int))])) (s.2.2.1 + ((s.2.2.2.length : Int) + b - 1) / b)).get? x
    rw [eC]
    exact hget
  · show rdDue n T ((enumI s.2.2.2).foldl (rdCop b s.2.2.1) s.2.1) (s.2.2.1 + ((s.2.2.2.length : Int) + b - 1) / b) = leftM n T (cpsOf b (s.1 ++ [(s.2.2.1, (⟨s.2.2.2⟩ : Tp Int))]), s.2.2.1 + ((s.2.2.2.length : Int) + b - 1) / b)
    rw [eC]
    unfold rdDue leftM
    rw [List.map_id']
    refine List.filter_congr fun x hx => ?_
    have hx' := mem_rng.mp hx
    have hcov := I.covered hx'.1 hx'.2
    have hg := hget x
    dsimp only
    rw [← hg, hcov]
    have hd : dix (copM (cpsOf b s.1 ++ cpsR b (s.2.2.1, ⟨s.2.2.2⟩)) (s.2.2.1 + ((s.2.2.2.length : Int) + b - 1) / b)) x = dix ((enumI s.2.2.2).foldl (rdCop b s.2.2.1) s.2.1) x := by unfold dix; rw [hg]
    rw [hd]
    have h0 : 0 ≤ dix ((enumI s.2.2.2).foldl (rdCop b s.2.2.1) s.2.1) x := by
      obtain ⟨v, hv⟩ := Option.isSome_iff_exists.mp hcov
      rw [dix_of hv]
      rw [hg, cop_get] at hv
      split at hv
      · cases hv
      · rename_i hne
        have hv' : maxL _ = v := Option.some.inj hv
        have := tks_lt (maxL_mem hne)
        omega
    cases e : (writtenIn T 0 (s.2.2.1 + ((s.2.2.2.length : Int) + b - 1) / b)).get? x with
    | none =>
      simp
      omega
    | some v => rw [dix_of e]; simp
  · show ∀ r ∈ s.1 ++ [(s.2.2.1, (⟨s.2.2.2⟩ : Tp Int))], r.2.l = leftM n T ((cpsOf b (s.1 ++ [(s.2.2.1, (⟨s.2.2.2⟩ : Tp Int))])).filter (fun c => decide (c.1 < r.1)), r.1) ∧ 0 ≤ r.1 ∧ r.1 ≤ s.2.2.1 + ((s.2.2.2.length : Int) + b - 1) / b
    rw [eC]
    intro r hr
    have hnew : ∀ t, t ≤ s.2.2.1 → (cpsR b (s.2.2.1, ⟨s.2.2.2⟩)).filter (fun c => decide (c.1 < t)) = [] := fun t ht => by
      rw [List.filter_eq_nil_iff]
      intro c hcm
      have := cpsR_bd P.b0 hcm
      simp
      omega
    rcases List.mem_append.mp hr with q | q
    · obtain ⟨p1, p2, p3⟩ := pref r q
      exact ⟨by rw [List.filter_append, hnew _ p3, List.append_nil]; exact p1, p2, by omega⟩
    · rw [List.mem_singleton.mp q]
      refine ⟨?_, t0, by dsimp only; omega⟩
      dsimp only
      rw [List.filter_append, hnew _ (Int.le_refl _), List.append_nil]
      have : (cpsOf b s.1).filter (fun c => decide (c.1 < s.2.2.1)) = cpsOf b s.1 := by
        rw [List.filter_eq_self]
        intro c hcm
        have := cb c hcm
        simp
        omega
      rw [this]
      exact due
structure RoundsOk (n b most : Int) (T : List (Tp Int)) (r : RR) : Prop where
  len : (r.a.length : Int) ≤ most
  cb : ∀ c ∈ cpsOf b r.a, 0 ≤ c.1 ∧ c.1 < r.b
  t0 : 0 ≤ r.b
  left : r.c.l = leftM n T (cpsOf b r.a, r.b)
  pref : ∀ x ∈ r.a, x.2.l = leftM n T ((cpsOf b r.a).filter (fun c => decide (c.1 < x.1)), x.1) ∧ 0 ≤ x.1 ∧ x.1 ≤ r.b
theorem cpsOf_len {b : Int} {m : Nat} : ∀ {told : List (Int × Tp Int)}, (∀ x ∈ told, x.2.l.length ≤ m) → (cpsOf b told).length ≤ told.length * m
  | [], _ => Nat.zero_le _
  | x :: told, h => by
    have ih := cpsOf_len (b := b) (m := m) (told := told) fun y hy => h y (List.mem_cons_of_mem _ hy)
    have h1 := h x List.mem_cons_self
    have e : (cpsOf b (x :: told)).length = x.2.l.length + (cpsOf b told).length := by
      unfold cpsOf
      rw [List.flatMap_cons, List.length_append]
      unfold cpsR
      rw [List.length_map, len_enumI]
    rw [e, List.length_cons, Nat.succ_mul]
    omega
end GL
namespace GL
open PySem PySem.Spec PyProof.Rows L2
variable {C : Addr}
end GL
namespace GL
open PySem PySem.Spec PyProof.Rows L2
structure GoodC (n : Int) (trail : List (Tp Int)) (b s stop : Int) (cs : List (Int × Int)) : Prop where
  srt : cs.Pairwise lt2
  len : cs.length < 64
  last : ∀ p ∈ cs, lastW trail stop p.2 < p.1 ∧ p.1 < stop
  sh : ∀ p ∈ cs, 0 ≤ p.2 ∧ p.2 < n
  cap : ∀ t : Int, ((cs.filter fun p => decide (p.1 = t)).length : Int) ≤ b
  nd : (cs.map (·.2)).Nodup
  many : (cs.length : Int) = max 0 (n - s)
abbrev byLast (ls : List Int) : List (Int × Int) := srt2 ((enumI ls).map fun x => (x.2, x.1))
theorem filter_perm_len {δ : Type} {l l' : List δ} (p : l.Perm l') (f : δ → Bool) : (l.filter f).length = (l'.filter f).length := (p.filter f).length_eq
end GL
namespace GL
open PySem PySem.Spec PyProof.Rows L2
theorem cnt_put {pre : List (Int × Int)} {it : Int × Int} {d : Dct Int} (h : ∀ t, (d.get? t).getD 0 = ((pre.filter fun p => decide (p.1 = t)).length : Int)) (hl : d.l.length ≤ pre.length) :
    (∀ t, ((d.put it.1 ((d.get? it.1).getD 0 + 1)).get? t).getD 0 = (((pre ++ [it]).filter fun p => decide (p.1 = t)).length : Int)) ∧ (d.put it.1 ((d.get? it.1).getD 0 + 1)).l.length ≤ (pre ++ [it]).length := by
  refine ⟨fun t => ?_, ?_⟩
  · rw [Dct.get?_put, List.filter_append, List.length_append, List.filter_cons, List.filter_nil]
    by_cases e : it.1 = t
    · rw [if_pos e.symm, if_pos (decide_eq_true e), Option.getD_some, e, h]
      simp
    · rw [if_neg (fun q => e q.symm), if_neg (by rw [decide_eq_false e]; decide), h]
      simp
  · refine Nat.le_trans (Dct.put_len _ _ _) ?_
    rw [List.length_append]
    exact Nat.add_le_add_right hl 1
end GL
namespace GL
open PySem PySem.Spec PyProof.Rows L2
def alPut (beat : Int) (l : List Int) (s : Int) : List Int := l.set s.toNat beat
def alStep (st : List Int × List (Tp Int)) (p : Int × Tp Int) : List Int × List (Tp Int) := (p.2.l.foldl (alPut p.1) st.1, st.2 ++ [⟨p.2.l.foldl (alPut p.1) st.1⟩])
@[irreducible] def alongM (n : Int) (trail : List (Tp Int)) : List (Tp Int) := ((enumI trail).foldl alStep (List.replicate n.toNat (-1), [⟨List.replicate n.toNat (-1)⟩])).2
@[irreducible] def longerM (lead ring : List (Tp Int)) (many : Int) : List (Tp Int) := cutL (longM lead ring many) none (some many)
@[irreducible] def showsM (along : List (Tp Int)) (b s : Int) (some : List Int) : Bool := decide (some.length = along.length) && (enumI some).all fun p => decide (-1 ≤ p.2) && decide (p.2 < p.1) && decide (s < lackM (ix along p.1).l b p.1 p.2)
@[irreducible] def neverM (n : Int) (lead ring : List (Tp Int)) (b s : Int) (some : List Int) : Bool := decide ((some.length : Int) = manyM n lead ring b) && (enumI some).all fun p => barsM n (longM lead ring (manyM n lead ring b)) b s p.1 p.2
end GL
namespace GL
open PySem PySem.Spec PyProof.Rows L2
structure RingOk (n : Int) (y : List (Tp Int) × List (Tp Int)) : Prop where
  lead : TrLaw n 14 y.1
  ring : TrLaw n 20 y.2
  pos : 0 < y.2.length
def shB (along : List (Tp Int)) (b s : Int) (_ : Unit) (p : Int × Int) : Fl Unit Bool := if (!(decide (-1 ≤ p.2) && decide (p.2 < p.1)) || decide (lackM (ix along p.1).l b p.1 p.2 ≤ s)) = true then .rt false else .nx ()
def bentM (z : Spr) (some : List Int) : List Int × Spr :=
  let c0 := lawCup z some.length
  let c1 := lawCup c0.2 8
  let one := ix [-1, -2, c0.1, c0.1 - 1, (10 : Int) ^ (30 : Int).toNat, -(10 : Int) ^ (30 : Int).toNat, ix some c0.1 + 1, ix some c0.1 - 1] c1.1
  let more := [cutL some none (Option.some c0.1) ++ cutL some (Option.some (c0.1 + 1)) none, some ++ cutL some (Option.some (-1)) none, cutL some none (Option.some c0.1) ++ [one] ++ cutL some (Option.some (c0.1 + 1)) none, some.reverse, cutL some none (Option.some (-1))]
  let more1 := more ++ [cutL some none (Option.some c0.1) ++ [one] ++ cutL some (Option.some c0.1) none, cutL some (Option.some 1) none ++ cutL some none (Option.some 1), [], cutL some none (Option.some c0.1) ++ [one] ++ cutL some (Option.some (c0.1 + 1)) none]
  (ix more1 (lawCup c1.2 9).1, (lawCup c1.2 9).2)
end GL
namespace GL
open PySem PySem.Spec PyProof.Rows L2
end GL
namespace GL
open PySem PySem.Spec PyProof.Rows L2
abbrev far24 : List (Tp Int) := longM (List.replicate 300 ⟨[0]⟩) (List.replicate 299 ⟨[0]⟩) 600
end GL
namespace GL
open PySem PySem.Spec PyProof.Rows L2
section
variable {K : Fg} {B S0 S1 S S' D : Hp} {σ : L2.St} {H H' : Hp} {F : Nat → List Addr} {G G' G1 G2 G3 : List Sl} {ta tb tc te : TE} {i j : Nat} {t u w : TS} {E : Ends} {tt : TT} {b : Bool}
end
@[irreducible] def leastT (ls : List Int) (b stop : Int) : Int := maxL ([0] ++ ls.map fun t => lackM ls b stop t)
end GL
namespace GL
open PySem PySem.Spec PyProof.Rows L2
abbrev far19 : List (Tp Int) := List.replicate 600 (⟨[0]⟩ : Tp Int) ++ [⟨[]⟩]
end GL
namespace GL
open PySem PySem.Spec PyProof.Rows L2
def cntA (cs : List (Int × Int)) (t : Int) : Int := ((cs.filter fun p => decide (p.1 = t)).length : Int)
def gdC (n b stop : Int) (cs : List (Int × Int)) (p : Int × Int) : Bool := inT stop p.1 && inT n p.2 && decide (cntA cs p.1 ≤ b)
@[irreducible] def isPlanM (n : Int) (T : List (Tp Int)) (b s : Int) (plan : List (Int × Int) × Int) : Bool := (decide (0 ≤ plan.2) && decide (plan.1 = usrt2 plan.1)) && (plan.1.all (gdC n b plan.2 plan.1) && decide (((leftM n T plan).length : Int) ≤ s))
theorem isPlan_of {n : Int} {T : List (Tp Int)} {b s : Int} {plan : List (Int × Int) × Int} (h0 : 0 ≤ plan.2) (h1 : plan.1.Pairwise lt2) (h2 : ∀ p ∈ plan.1, gdC n b plan.2 plan.1 p = true) : isPlanM n T b s plan = decide (((leftM n T plan).length : Int) ≤ s) := by
  unfold isPlanM
  rw [decide_eq_true h0, decide_eq_true (usrt2_eq h1 fun _ => Iff.rfl), List.all_eq_true.mpr h2]
  rfl
theorem isPlan_no0 {n : Int} {T : List (Tp Int)} {b s : Int} {plan : List (Int × Int) × Int} (h0 : ¬ 0 ≤ plan.2) : isPlanM n T b s plan = false := by
  unfold isPlanM
  rw [decide_eq_false h0]
  rfl
theorem isPlan_no1 {n : Int} {T : List (Tp Int)} {b s : Int} {plan : List (Int × Int) × Int} (h : plan.1 ≠ usrt2 plan.1) : isPlanM n T b s plan = false := by
  unfold isPlanM
  rw [decide_eq_false h, Bool.and_false]
  rfl
theorem isPlan_no2 {n : Int} {T : List (Tp Int)} {b s : Int} {plan : List (Int × Int) × Int} {p : Int × Int} (hp : p ∈ plan.1) (h : gdC n b plan.2 plan.1 p = false) : isPlanM n T b s plan = false := by
  unfold isPlanM
  have : plan.1.all (gdC n b plan.2 plan.1) = false := by
    rw [List.all_eq_false]
    exact ⟨p, hp, by rw [h]; decide⟩
  rw [this, Bool.false_and, Bool.and_false]
theorem pw_not_usrt2 {cs : List (Int × Int)} (h : ¬ cs.Pairwise lt2) : cs ≠ usrt2 cs := fun e => h (by rw [e]; exact usrt2_pw cs)
structure IpI (n b stop : Int) (pre : List (Int × Int)) (d : Dct Int) : Prop where
  cnt : ∀ t, (d.get? t).getD 0 = ((pre.filter fun p => decide (p.1 = t)).length : Int)
  len : d.l.length ≤ pre.length
  good : ∀ p ∈ pre, inT stop p.1 = true ∧ inT n p.2 = true ∧ cntA pre p.1 ≤ b
theorem IpI.start (n b stop : Int) : IpI n b stop [] Dct.emp := ⟨fun t => rfl, Nat.le_refl _, fun p hp => nomatch hp⟩
theorem cnt_mono {pre post : List (Int × Int)} (t : Int) : cntA pre t ≤ cntA (pre ++ post) t := by
  unfold cntA
  rw [List.filter_append, List.length_append]
  omega
theorem cnt_snoc (pre : List (Int × Int)) (it : Int × Int) (t : Int) : cntA (pre ++ [it]) t = if it.1 = t then cntA pre t + 1 else cntA pre t := by
  unfold cntA
  rw [List.filter_append, List.length_append, List.filter_cons, List.filter_nil]
  by_cases h : it.1 = t
  · rw [if_pos h, if_pos (decide_eq_true h)]
    rfl
  · rw [if_neg h, if_neg (by rw [decide_eq_false h]; decide)]
    rfl
theorem IpI.dix {n b stop : Int} {pre : List (Int × Int)} {d : Dct Int} {it : Int × Int} (h : IpI n b stop pre d) : dix (d.put it.1 ((d.get? it.1).getD 0 + 1)) it.1 = cntA (pre ++ [it]) it.1 := by
  rw [dix_put, if_pos rfl, h.cnt, cnt_snoc, if_pos rfl]
  rfl
theorem IpI.next {n b stop : Int} {pre : List (Int × Int)} {d : Dct Int} {it : Int × Int} (h : IpI n b stop pre d) (h1 : inT stop it.1 = true) (h2 : inT n it.2 = true) (h3 : cntA (pre ++ [it]) it.1 ≤ b) : IpI n b stop (pre ++ [it]) (d.put it.1 ((d.get? it.1).getD 0 + 1)) := by
  obtain ⟨c1, c2⟩ := cnt_put h.cnt h.len (it := it)
  refine ⟨c1, c2, fun p hp => ?_⟩
  rcases List.mem_append.mp hp with q | q
  · obtain ⟨g1, g2, g3⟩ := h.good p q
    refine ⟨g1, g2, ?_⟩
    by_cases e : it.1 = p.1
    · rw [← e]; exact h3
    · rw [cnt_snoc, if_neg e]; exact g3
  · rw [List.mem_singleton.mp q]
    exact ⟨h1, h2, h3⟩
theorem IpI.bad {n b s : Int} {T : List (Tp Int)} {plan : List (Int × Int) × Int} {pre post : List (Int × Int)} {it : Int × Int} (e : pre ++ it :: post = plan.1) (h : ((!inT plan.2 it.1) || ((!inT n it.2) || decide (b < cntA (pre ++ [it]) it.1))) = true) : isPlanM n T b s plan = false := by
  refine isPlan_no2 (p := it) (by rw [← e]; simp) ?_
  unfold gdC
  have hm := cnt_mono (pre := pre ++ [it]) (post := post) it.1
  rw [List.append_assoc, List.singleton_append, e] at hm
  rcases Bool.or_eq_true _ _ ▸ h with q | q
  · rw [show inT plan.2 it.1 = false by simpa using q]
    rfl
  · rcases Bool.or_eq_true _ _ ▸ q with q | q
    · rw [show inT n it.2 = false by simpa using q, Bool.and_false]
      rfl
    · have := of_decide_eq_true q
      rw [decide_eq_false (show ¬ cntA plan.1 it.1 ≤ b by omega), Bool.and_false]
theorem IpI.all {n b stop : Int} {cs : List (Int × Int)} {d : Dct Int} (h : IpI n b stop cs d) : ∀ p ∈ cs, gdC n b stop cs p = true := fun p hp => by
  obtain ⟨g1, g2, g3⟩ := h.good p hp
  unfold gdC
  rw [g1, g2, decide_eq_true g3]
  rfl
theorem enum_split {α : Type} {xs : List α} {pre post : List (Int × α)} {it : Int × α} (e : pre ++ it :: post = enumI xs) : xs = pre.map (·.2) ++ it.2 :: post.map (·.2) ∧ it.1 = pre.length := by
  have h1 := enumI_snd xs
  refine ⟨?_, ?_⟩
  · conv => lhs; rw [← h1, ← e, List.map_append, List.map_cons]
  · have h2 : (enumI xs)[pre.length]? = some it := by rw [← e, List.getElem?_append_right (Nat.le_refl _), Nat.sub_self]; rfl
    unfold enumI at h2
    rw [List.getElem?_map, List.getElem?_zipIdx] at h2
    cases hx : xs[pre.length]? with
    | none => rw [hx] at h2; exact absurd h2 (by simp)
    | some x =>
      rw [hx] at h2
      simp at h2
      rw [← h2]
theorem lt2_trans {a b c : Int × Int} (h1 : lt2 a b) (h2 : lt2 b c) : lt2 a c := by
  unfold lt2 at *
  omega
theorem not_le2b {a b : Int × Int} : le2b a b = false ↔ lt2 b a := by
  rw [Bool.eq_false_iff, Ne, le2b_iff]
  unfold le2 lt2
  omega
theorem not_f {b : Bool} (h : (!b) = false) : b = true := by cases b <;> simp_all
theorem ix_mid {cs preL postL : List (Int × Int)} {x : Int × Int} (e : cs = preL ++ x :: postL) : ix cs preL.length = x := by
  unfold ix
  rw [e, List.getD_eq_getElem?_getD, show ((preL.length : Int)).toNat = preL.length by omega, List.getElem?_append_right (Nat.le_refl _), Nat.sub_self]
  rfl
theorem ix_ahead {cs preL postL : List (Int × Int)} {x : Int × Int} (e : cs = preL ++ x :: postL) (h : 0 < preL.length) : preL[preL.length - 1]? = some (ix cs ((preL.length : Int) - 1)) := by
  have h1 := ix_at (xs := cs) (i := (preL.length : Int) - 1) (by omega) (by rw [e, List.length_append]; omega)
  rw [show ((preL.length : Int) - 1).toNat = preL.length - 1 by omega] at h1
  rw [← h1, e, List.getElem?_append_left (by omega)]
theorem lw_next {cs preL postL : List (Int × Int)} {x : Int × Int} (e : cs = preL ++ x :: postL) (hp : preL.Pairwise lt2) (h : 0 < preL.length → lt2 (ix cs ((preL.length : Int) - 1)) x) : (preL ++ [x]).Pairwise lt2 := by
  refine List.pairwise_append.mpr ⟨hp, List.pairwise_singleton _ _, fun a ha b hb => ?_⟩
  rw [List.mem_singleton.mp hb]
  obtain ⟨i, hi, rfl⟩ := List.getElem_of_mem ha
  have h2 := h (by omega)
  have h3 := ix_ahead e (by omega)
  have h4 : preL[preL.length - 1] = ix cs ((preL.length : Int) - 1) := (List.getElem?_eq_some_iff.mp h3).2
  by_cases q : i = preL.length - 1
  · subst q
    rw [h4]
    exact h2
  · have h5 := List.pairwise_iff_getElem.mp hp i (preL.length - 1) hi (by omega) (by omega)
    rw [h4] at h5
    exact lt2_trans h5 h2
theorem lw_bad {cs preL postL : List (Int × Int)} {x : Int × Int} (e : cs = preL ++ x :: postL) (h0 : 0 < preL.length) (h : ¬ lt2 (ix cs ((preL.length : Int) - 1)) x) : ¬ cs.Pairwise lt2 := fun z => by
  rw [e] at z
  have h3 := ix_ahead e h0
  exact h ((List.pairwise_append.mp z).2.2 _ (List.mem_of_getElem? h3) x List.mem_cons_self)
structure LwI (n b stop : Int) (cs : List (Int × Int)) (pre : List (Int × (Int × Int))) : Prop where
  pw : (pre.map (·.2)).Pairwise lt2
  good : ∀ p ∈ pre, gdC n b stop cs p.2 = true
theorem LwI.start (n b stop : Int) (cs : List (Int × Int)) : LwI n b stop cs [] := ⟨List.Pairwise.nil, fun p hp => nomatch hp⟩
theorem LwI.bad {n b s : Int} {T : List (Tp Int)} {plan : List (Int × Int) × Int} {pre post : List (Int × (Int × Int))} {it : Int × (Int × Int)} (e : pre ++ it :: post = enumI plan.1) (h : ((decide (0 < it.1) && le2b (ix plan.1 it.1) (ix plan.1 (it.1 - 1))) || decide (b < cntA plan.1 it.2.1)) = true) : isPlanM n T b s plan = false := by
  obtain ⟨e1, e2⟩ := enum_split e
  have hl : (pre.map (·.2)).length = pre.length := List.length_map ..
  rcases Bool.or_eq_true _ _ ▸ h with q | q
  · obtain ⟨q1, q2⟩ := Bool.and_eq_true_iff.mp q
    have q3 := of_decide_eq_true q1
    refine isPlan_no1 (pw_not_usrt2 (lw_bad e1 (by omega) fun z => ?_))
    rw [e2, ← hl, ix_mid e1] at q2
    rw [not_le2b.mpr z] at q2
    exact absurd q2 Bool.false_ne_true
  · have q3 := of_decide_eq_true q
    refine isPlan_no2 (p := it.2) (by rw [e1]; simp) ?_
    unfold gdC
    rw [decide_eq_false (by omega), Bool.and_false]
theorem LwI.next {n b stop : Int} {cs : List (Int × Int)} {pre post : List (Int × (Int × Int))} {it : Int × (Int × Int)} (I : LwI n b stop cs pre) (e : pre ++ it :: post = enumI cs) (h1 : inT stop it.2.1 = true) (h2 : inT n it.2.2 = true) (h : ((decide (0 < it.1) && le2b (ix cs it.1) (ix cs (it.1 - 1))) || decide (b < cntA cs it.2.1)) = false) : LwI n b stop cs (pre ++ [it]) := by
  obtain ⟨e1, e2⟩ := enum_split e
  have hl : (pre.map (·.2)).length = pre.length := List.length_map ..
  obtain ⟨q1, q2⟩ := Bool.or_eq_false_iff.mp h
  have q3 := of_decide_eq_false q2
  refine ⟨?_, fun p hp => ?_⟩
  · rw [List.map_append]
    refine lw_next e1 I.pw fun h0 => ?_
    rw [decide_eq_true (show 0 < it.1 by omega), Bool.true_and, e2, ← hl, ix_mid e1] at q1
    exact not_le2b.mp q1
  · rcases List.mem_append.mp hp with q | q
    · exact I.good p q
    · rw [List.mem_singleton.mp q]
      unfold gdC
      rw [h1, h2, decide_eq_true (by omega)]
      rfl
theorem LwI.fin {n b s : Int} {T : List (Tp Int)} {plan : List (Int × Int) × Int} (I : LwI n b plan.2 plan.1 (enumI plan.1)) : isPlanM n T b s plan = (decide (0 ≤ plan.2) && decide (((leftM n T plan).length : Int) ≤ s)) := by
  have h1 := I.pw
  rw [enumI_snd] at h1
  by_cases h0 : 0 ≤ plan.2
  · rw [decide_eq_true h0, Bool.true_and]
    refine isPlan_of h0 h1 fun p hp => ?_
    obtain ⟨i, hi, rfl⟩ := List.getElem_of_mem hp
    exact I.good ((i : Int), plan.1[i]) (mem_enumI.mpr ⟨by show (0 : Int) ≤ (i : Int); omega, by show plan.1[((i : Int)).toNat]? = _; rw [show ((i : Int)).toNat = i by omega]; exact List.getElem?_eq_getElem hi⟩)
  · rw [isPlan_no0 h0, decide_eq_false h0]
    rfl
end GL
namespace GL
open PySem PySem.Spec PyProof.Rows L2
theorem nodup_sub_le : ∀ {xs ys : List Int}, xs.Nodup → (∀ x ∈ xs, x ∈ ys) → xs.length ≤ ys.length
  | [], _, _, _ => Nat.zero_le _
  | x :: xs, ys, h, hs => by
    have hx := hs x List.mem_cons_self
    have hn := List.nodup_cons.mp h
    have ih := nodup_sub_le (ys := ys.erase x) hn.2 fun y hy => (List.mem_erase_of_ne (fun e : y = x => hn.1 (by rw [← e]; exact hy))).mpr (hs y (List.mem_cons_of_mem _ hy))
    rw [List.length_erase_of_mem hx] at ih
    have := List.length_pos_of_mem hx
    rw [List.length_cons]
    omega
abbrev NdS := List Int × Dct Bool
def ndS (st : NdS) (t : Tp Int × Tp Int) : NdS := (st.1 ++ ndNew st.1 st.2 t.1.l, wrD st.2 t.2.l)
def nd (y : Tch) : NdS := y.foldl ndS ([], Dct.emp)
def mN (y : Tch) : Int := ((nd y).1.length : Int)
theorem nd_snoc (y : Tch) (t : Tp Int × Tp Int) : nd (y ++ [t]) = ndS (nd y) t := by
  unfold nd
  rw [List.foldl_append]
  rfl
def LLR (y : Tch) (r : LlS) : Prop := r.1 = (nd y).1 ∧ r.2.1 = (nd y).2 ∧ 0 ≤ r.2.2.1 ∧ (∀ j, j < y.length → mN (y.take (j + 1)) - j ≤ r.2.2.1) ∧
  ((r.2.2.1 = 0 ∧ r.2.2.2 = none) ∨ ∃ j : Nat, r.2.2.2 = some (j : Int) ∧ j < y.length ∧ 0 < r.2.2.1 ∧ mN (y.take (j + 1)) = r.2.2.1 + j)
def CL (C : List Int) (came : Dct Int) : Prop := C.Nodup ∧ ∀ x, x ∈ C ↔ (came.get? x).isSome = true
theorem CL.put {C : List Int} {came : Dct Int} {x now : Int} (h : CL C came) (hx : (came.get? x).isSome = false) : CL (C ++ [x]) (came.put x now) := by
  refine ⟨List.nodup_append.mpr ⟨h.1, by simp, fun a ha b hb e => ?_⟩, fun y => ?_⟩
  · rw [List.mem_singleton.mp hb] at e
    have := (h.2 a).mp ha
    rw [e, hx] at this
    cases this
  · rw [List.mem_append, List.mem_singleton, h.2 y, Dct.get?_put]
    by_cases e : y = x
    · rw [if_pos e]
      simp [e]
    · rw [if_neg e]
      simp [e]
def take1 (l : List Int) (now : Int) (d : Dct Int) : Dct Int := match l.head? with | none => d | some x => d.put x now
structure PLB (y : Tch) (st : PlS) (C : List Int) : Prop where
  wr : st.2.1 = (nd y).2
  cl : CL C st.1
  cn : (C.length : Int) ≤ st.2.2.2
  nds : ∀ p ∈ (nd y).1, p ∈ C
  tk : st.2.2.1.length = y.length
  lo : ∀ k, k < y.length → mN (y.take (k + 1)) ≤ st.2.2.1.getD k 0
  up : ∀ k, k + 1 < y.length → st.2.2.1.getD k 0 + 1 ≤ st.2.2.1.getD (k + 1) 0
  ds : ∀ k, k < y.length → st.2.2.1.getD k 0 + ((y.length : Int) - k) ≤ st.2.2.2
  ls : 0 < y.length → st.2.2.1.getD (y.length - 1) 0 + 1 = st.2.2.2
  z : y.length = 0 → st.2.2.2 = 0
  ge : (y.length : Int) ≤ st.2.2.2
end GL
namespace GL
open PySem PySem.Spec PyProof.Rows L2
variable {C : Addr}
section
variable {n b s stop : Int} {T : List (Tp Int)} {cs : List (Int × Int)}
theorem lastW_ge (T : List (Tp Int)) (stop x : Int) : -1 ≤ lastW T stop x := by
  have : ∀ k : Nat, -1 ≤ (lastN T k x).getD (-1) := fun k => by
    induction k with
    | zero => exact Int.le_refl _
    | succ k ih =>
      rw [lastN]
      split
      · show (-1 : Int) ≤ (k : Int); omega
      · exact ih
  exact this _
theorem GoodC.bd (h : GoodC n T b s stop cs) {c : Int × Int} (hc : c ∈ cs) : 0 ≤ c.1 ∧ c.1 < stop := by
  have h1 := h.last c hc
  have h2 := lastW_ge T stop c.2
  omega
theorem GoodC.left (h : GoodC n T b s stop cs) : leftM n T (cs, stop) = (rng 0 n).filter fun x => !decide (x ∈ cs.map (·.2)) := by
  rw [left_eq]
  refine List.filter_congr fun x _ => ?_
  by_cases e : x ∈ cs.map (·.2)
  · rw [decide_eq_true e]
    obtain ⟨c, hc, rfl⟩ := List.mem_map.mp e
    have hb := h.bd hc
    refine lf_iff.mpr ⟨c.1, ?_, (h.last c hc).1⟩
    unfold tks inT
    refine List.mem_map.mpr ⟨c, List.mem_filter.mpr ⟨hc, ?_⟩, rfl⟩
    simp [hb]
  · rw [decide_eq_false e]
    show lfT T cs stop x = true
    have : tks cs stop x = [] := by
      unfold tks
      rw [List.map_eq_nil_iff, List.filter_eq_nil_iff]
      intro c hc q
      have := (Bool.and_eq_true_iff.mp q).1
      exact e (List.mem_map.mpr ⟨c, hc, of_decide_eq_true this⟩)
    unfold lfT
    rw [this]
    rfl
theorem GoodC.perm (h : GoodC n T b s stop cs) : (rng 0 n).Perm (cs.map (·.2) ++ leftM n T (cs, stop)) := by
  rw [h.left]
  refine (List.perm_ext_iff_of_nodup (rng_nodup 0 n) ?_).mpr fun x => ?_
  · refine List.nodup_append.mpr ⟨h.nd, (rng_nodup 0 n).filter _, fun a ha c hc e => ?_⟩
    have := (List.mem_filter.mp hc).2
    rw [← e, decide_eq_true ha] at this
    cases this
  · rw [List.mem_append, List.mem_filter]
    constructor
    · intro hx
      by_cases e : x ∈ cs.map (·.2)
      · exact .inl e
      · exact .inr ⟨hx, by rw [decide_eq_false e]; rfl⟩
    · rintro (q | q)
      · obtain ⟨c, hc, rfl⟩ := List.mem_map.mp q
        have := h.sh c hc
        exact mem_rng.mpr this
      · exact q.1
theorem rng_le (n : Int) : (rng 0 n).Pairwise (· ≤ ·) := (rng_sorted 0 n).imp fun h => Int.le_of_lt h
theorem GoodC.sorted (h : GoodC n T b s stop cs) : GL.srt (cs.map (·.2) ++ leftM n T (cs, stop)) = rng 0 n := (srt_eq h.perm (rng_le n)).symm
end
structure DrOk (b stop : Int) (cps : List (Int × Int)) : Prop where
  bd : ∀ c ∈ cps, 0 ≤ c.1 ∧ c.1 < stop
  cnt : ∀ u : Int, -1 ≤ u → u < stop → ((cps.filter fun c => decide (u < c.1)).length : Int) ≤ b * (stop - 1 - u)
theorem drawn_left {n b stop t : Int} {T : List (Tp Int)} {cps : List (Int × Int)} (h : DrOk b stop cps) (ht : -1 ≤ t) (ht1 : t < stop) : lackM (lastsM n T stop) b stop t ≤ ((leftM n T (cps, stop)).length : Int) := by
  have hA : ((lastsM n T stop).filter fun x => decide (t ≤ x)).length = ((rng 0 n).filter fun x => decide (t ≤ lastW T stop x)).length := by
    unfold lastsM
    rw [List.filter_map, List.length_map]
    rfl
  have hsplit : ∀ l : List Int, (l.filter fun x => decide (t ≤ lastW T stop x)).length ≤ (l.filter (lfT T cps stop)).length + (l.filter fun x => decide (t ≤ lastW T stop x) && !lfT T cps stop x).length := fun l => by
    induction l with
    | nil => simp
    | cons x l ih =>
      rw [List.filter_cons, List.filter_cons, List.filter_cons]
      cases lfT T cps stop x <;> cases decide (t ≤ lastW T stop x) <;> simp <;> omega
  have hB : ((rng 0 n).filter fun x => decide (t ≤ lastW T stop x) && !lfT T cps stop x).length ≤ ((cps.filter fun c => decide (t < c.1)).map (·.2)).length := by
    refine nodup_sub_le ((rng_nodup 0 n).filter _) fun x hx => ?_
    obtain ⟨_, q⟩ := List.mem_filter.mp hx
    obtain ⟨q1, q2⟩ := Bool.and_eq_true_iff.mp q
    have q1 := of_decide_eq_true q1
    have q2 : lfT T cps stop x = false := by simpa using q2
    obtain ⟨y, hy, hl⟩ := lf_iff.mp q2
    unfold tks at hy
    obtain ⟨c, hc, rfl⟩ := List.mem_map.mp hy
    obtain ⟨hc1, hc2⟩ := List.mem_filter.mp hc
    have e : c.2 = x := of_decide_eq_true (Bool.and_eq_true_iff.mp hc2).1
    exact List.mem_map.mpr ⟨c, List.mem_filter.mpr ⟨hc1, by simp; omega⟩, e⟩
  rw [List.length_map] at hB
  have h1 := hsplit (rng 0 n)
  have h2 := h.cnt t ht ht1
  rw [left_eq]
  unfold lackM
  rw [hA, show stop - t - 1 = stop - 1 - t by omega]
  dsimp only
  omega
structure DrI (b t : Int) (cps : List (Int × Int)) : Prop where
  ok : DrOk b t cps
  len : (cps.length : Int) ≤ 12 * t
theorem DrI.start (b : Int) : DrI b 0 [] := by
  refine ⟨⟨(fun c h => nomatch h), fun u h1 h2 => ?_⟩, by simp⟩
  have e : u = -1 := by omega
  rw [e]
  simp
theorem DrI.next {b t : Int} {cps ex : List (Int × Int)} (h : DrI b t cps) (ht : 0 ≤ t) (he : ∀ c ∈ ex, c.1 = t) (hl : (ex.length : Int) ≤ b) (hl2 : ex.length ≤ 12) : DrI b (t + 1) (cps ++ ex) := by
  obtain ⟨⟨h1, h2⟩, h3⟩ := h
  refine ⟨⟨fun c hc => ?_, fun u hu hu1 => ?_⟩, by rw [List.length_append]; omega⟩
  · rcases List.mem_append.mp hc with q | q
    · have := h1 c q; omega
    · have := he c q; omega
  · rw [List.filter_append, List.length_append]
    have e1 : (ex.filter fun c => decide (u < c.1)).length ≤ ex.length := List.length_filter_le _ _
    by_cases c : u < t
    · have h4 := h2 u hu c
      have e2 : b * (t + 1 - 1 - u) = b * (t - 1 - u) + b := by rw [show t + 1 - 1 - u = (t - 1 - u) + 1 by omega, Int.mul_add, Int.mul_one]
      rw [e2]
      omega
    · have eu : u = t := by omega
      have e3 : (cps.filter fun c => decide (u < c.1)) = [] := by
        rw [List.filter_eq_nil_iff]
        intro c hc
        have := h1 c hc
        simp
        omega
      have e4 : (ex.filter fun c => decide (u < c.1)) = [] := by
        rw [List.filter_eq_nil_iff]
        intro c hc
        have := he c hc
        simp
        omega
      rw [e3, e4, eu, show t + 1 - 1 - t = 0 by omega, Int.mul_zero]
      simp
theorem DrOk.perm {b stop : Int} {l l' : List (Int × Int)} (h : DrOk b stop l) (p : l'.Perm l) : DrOk b stop l' :=
  ⟨fun c hc => h.bd c (p.mem_iff.mp hc), fun u h1 h2 => by rw [filter_perm_len p]; exact h.cnt u h1 h2⟩
end GL
namespace GL
open PySem PySem.Spec PyProof.Rows L2
structure DrJ (cb : List (Int × Int)) (now n : Int) (k : Nat) (cps : List (Int × Int)) (left : List Int) : Prop where
  ex : ∃ ex, cps = cb ++ ex ∧ (∀ c ∈ ex, c.1 = now) ∧ ex.length = k
  ll : (left.length : Int) = n - k
theorem DrJ.start {cb : List (Int × Int)} {now n : Int} {left : List Int} (hn : 0 ≤ n) (h : left = rng 0 n) : DrJ cb now n 0 cb left := ⟨⟨[], by simp, (fun c h => nomatch h), rfl⟩, by rw [h, len_rng]; omega⟩
theorem DrJ.step {cb cps : List (Int × Int)} {now n y : Int} {k : Nat} {left left' : List Int} (h : DrJ cb now n k cps left) (hl : left'.length + 1 = left.length) : DrJ cb now n (k + 1) (cps ++ [(now, y)]) left' := by
  obtain ⟨⟨ex, h1, h2, h3⟩, h4⟩ := h
  refine ⟨⟨ex ++ [(now, y)], by rw [h1, List.append_assoc], fun c hc => ?_, by rw [List.length_append, h3]; rfl⟩, by omega⟩
  rcases List.mem_append.mp hc with q | q
  · exact h2 c q
  · rw [List.mem_singleton.mp q]
theorem DrJ.fin {b now n : Int} {k : Nat} {cb cps : List (Int × Int)} {left : List Int} (h : DrJ cb now n k cps left) (hI : DrI b now cb) (h0 : 0 ≤ now) (hk : (k : Int) ≤ b) (hk2 : k ≤ 12) : DrI b (now + 1) cps := by
  obtain ⟨⟨ex, h1, h2, h3⟩, h4⟩ := h
  rw [h1]
  exact hI.next h0 h2 (by omega) (by omega)
end GL
namespace GL
open PySem
open PySem.Sem (wp)
section
variable {prog : Program} {w : World} {κ : Type} [DecidableEq κ] (knd : KeyKind prog w κ)
abbrev NK (κ : Type) := List (κ ⊕ List κ)
def ItemN (h : Heap) : κ ⊕ List κ → Value → Prop
  | .inl k, v => knd.is k v = true
  | .inr l, v => ∃ b, v = .ref b ∧ IsTupleKey knd h l b
inductive ItemsN (h : Heap) : NK κ → List Value → Prop
  | nil : ItemsN h [] []
  | cons {k : κ ⊕ List κ} {v : Value} {ks : NK κ} {vs : List Value} : ItemN knd h k v → ItemsN h ks vs → ItemsN h (k :: ks) (v :: vs)
def IsNK (h : Heap) (ks : NK κ) (a : Addr) : Prop := ∃ o items n, h.get? a = some o ∧ o.cls = .type "tuple" ∧ o.data = .seq items n ∧ ItemsN knd h ks items.toList
variable {knd}
theorem ItemN.inj {h : Heap} {x y : κ ⊕ List κ} {v : Value} (hx : ItemN knd h x v) (hy : ItemN knd h y v) : x = y := by
  cases x with
  | inl k =>
    cases y with
    | inl k' => exact congrArg Sum.inl (knd.inj _ _ _ hx hy)
    | inr l' =>
      obtain ⟨b, rfl, _⟩ := hy
      have := knd.byValue _ _ hx
      simp [carriedByValue] at this
  | inr l =>
    obtain ⟨b, rfl, hl⟩ := hx
    cases y with
    | inl k' =>
      have := knd.byValue _ _ hy
      simp [carriedByValue] at this
    | inr l' =>
      obtain ⟨b', e, hl'⟩ := hy
      cases e
      exact congrArg Sum.inr (hl.inj hl')
theorem ItemsN.inj {h : Heap} {x y : NK κ} {vs : List Value} (hx : ItemsN knd h x vs) (hy : ItemsN knd h y vs) : x = y := by
  induction hx generalizing y with
  | nil => cases hy; rfl
  | cons h1 _ ih =>
    cases hy with
    | cons h2 t2 => rw [h1.inj h2, ih t2]
theorem IsNK.typeIs {s : Shared} {ks : NK κ} {a : Addr} (x : IsNK knd s.heap ks a) : s.TypeIs (.ref a) "tuple" := let ⟨o, _, _, ho, hc, _⟩ := x; ⟨o, ho, hc⟩
theorem IsNK.inj {h : Heap} {a : Addr} {x y : NK κ} (hx : IsNK knd h x a) (hy : IsNK knd h y a) : x = y := by
  obtain ⟨o, items, n, ho, _, hd, hi⟩ := hx
  obtain ⟨o', items', n', ho', _, hd', hi'⟩ := hy
  obtain rfl : o = o' := Option.some.inj (ho.symm.trans ho')
  rw [hd] at hd'
  injection hd' with h1 _
  subst h1
  exact hi.inj hi'
theorem ItemsN.keeps {h h' : Heap} {d : Addr} {o : Obj} {es ep} (ho : h.get? d = some o) (hd : o.data = .dict es ep) (hs : Heap.SameBut d h h') {ks : NK κ} {vs : List Value} (x : ItemsN knd h ks vs) : ItemsN knd h' ks vs := by
  induction x with
  | nil => exact .nil
  | @cons k v ks vs h1 _ ih =>
    refine .cons ?_ ih
    cases k with
    | inl k => exact h1
    | inr l =>
      obtain ⟨b, e, hl⟩ := h1
      exact ⟨b, e, hl.keeps ho hd hs⟩
theorem IsNK.keeps {h h' : Heap} {ks : NK κ} {a d : Addr} {o : Obj} {es ep} (x : IsNK knd h ks a) (ho : h.get? d = some o) (hd : o.data = .dict es ep) (hs : Heap.SameBut d h h') : IsNK knd h' ks a := by
  obtain ⟨o', items, n, ho', hc, hd', hi⟩ := x
  have hne : a ≠ d := by
    rintro rfl
    obtain rfl : o' = o := Option.some.inj (ho'.symm.trans ho)
    rw [hd] at hd'
    exact nomatch hd'
  exact ⟨o', items, n, (hs.2 a hne).trans ho', hc, hd', hi.keeps ho hd hs⟩
variable (knd) in
def itemHash : κ ⊕ List κ → Int
  | .inl k => knd.hash k
  | .inr l => tupleKeyHash knd l
def itemDraws : κ ⊕ List κ → Nat
  | .inl _ => 1
  | .inr l => l.length + 1
def nkDraws (ks : NK κ) : Nat := (ks.map itemDraws).sum + 1
variable (knd) in
def nkHash (ks : NK κ) : Int := reduceHash (Builtin.Tuple.tupleHashOf (ks.map (itemHash knd)))
variable {A : Around} {E : Value → Shared → Prop} {s : Shared}
theorem hash_item {k : κ ⊕ List κ} {v : Value} {Q : Int → Shared → Prop} (hu : A.units < cLine) (hk : ItemN knd s.heap k v) (h : Q (itemHash knd k) { s with toks := s.toks + itemDraws k }) : wpAny (model prog w) A (pyHash v) Q E s := by
  cases k with
  | inl k => exact knd.pyHash hk h
  | inr l =>
    obtain ⟨b, rfl, hl⟩ := hk
    exact wpAny_pyHash_tuple hu hl h
theorem hash_nk {ks : NK κ} {a : Addr} {Q : Int → Shared → Prop} (hu : A.units + 1 < cLine) (hk : IsNK knd s.heap ks a) (h : Q (nkHash knd ks) { s with toks := s.toks + nkDraws ks }) :
    wpAny (model prog w) A (pyHash (.ref a)) Q E s := by
  have hT := hk.typeIs
  obtain ⟨o, items, n, ho, _, hd, hi⟩ := hk
  unfold pyHash
  first | unfold pyHashByItsType | skip
  first | refine wpAny_bind (wpAny_cRoomFor_or (.inr (Nat.lt_of_succ_lt hu)) ?_) | skip
  refine wpAny_bind (wpAny_specialOf hT F.slot_tuple_hash.lookup ?_)
  show wpAny _ _ (if (some (Value.builtin "tuple.__hash__") == some Value.none) = true then _ else _) Q E s
  rw [if_neg (by rw [beq_builtin_none]; exact Bool.false_ne_true)]
  refine wpAny_bind (wpAny_specialOf hT F.slot_tuple_hash.lookup ?_)
  show wpAny _ _ (callSpecialIfBoundUnlessNone? (.ref a) "__hash__" _ >>= _) Q E s
  refine wpAny_bind (wpAny_callSpecialIfBoundUnlessNone?_slot hT F.slot_tuple_hash (wpAny_call_entry F.slot_tuple_hash hT F.entry_tuple_hash ?_ (F.args_tuple_hash_1 _)))
  show wpAny _ _ (Builtin.Tuple.tupleItemsOf (.ref a) >>= _) _ _ s
  refine wpAny_bind (wpAny_tupleItemsOf ho hd ?_)
  refine wpAny_bind ?_
  rw [← Array.forIn_toList]
  refine wpAny_forIn_list _
    (fun rest (b : Array Int) s' => ∃ done left, ks = done ++ left ∧ ItemsN knd s.heap left rest ∧ b.toList = done.map (itemHash knd) ∧ s' = { s with toks := s.toks + (done.map itemDraws).sum })
    _ ?_ ?_ _ _ ⟨[], ks, rfl, hi, rfl, rfl⟩
  · rintro x rest b s' ⟨done, left, rfl, hl, hb, rfl⟩
    cases hl with
    | @cons k _ ks' _ h1 hl' =>
      refine wpAny_bind (hash_item (by first | exact hu | exact Nat.lt_of_succ_lt hu) h1 ?_)
      first
        | exact wpAny_pure ⟨done ++ [k], ks', by simp, hl', by simp [hb], by simp [Nat.add_assoc]⟩
        | exact wpAny_bind (wpAny_pure (wpAny_pure ⟨done ++ [k], ks', by simp, hl', by simp [hb], by simp [Nat.add_assoc]⟩))
  · rintro b s' ⟨done, left, rfl, hl, hb, rfl⟩
    cases hl
    rw [List.append_nil] at h
    show wpAny _ _ (retInt (Builtin.Tuple.tupleHashOf b.toList)) _ _ _
    rw [hb]
    refine wpAny_ret_mkInt ?_
    show wpAny _ _ (if (decide (-(2 : Int) ^ 63 ≤ Builtin.Tuple.tupleHashOf (done.map (itemHash knd))) && decide (Builtin.Tuple.tupleHashOf (done.map (itemHash knd)) < 2 ^ 63)) = true then _ else _) Q E _
    unfold nkHash reduceHash nkDraws at h
    by_cases hr : (decide (-(2 : Int) ^ 63 ≤ Builtin.Tuple.tupleHashOf (done.map (itemHash knd))) && decide (Builtin.Tuple.tupleHashOf (done.map (itemHash knd)) < 2 ^ 63)) = true
    · rw [if_pos hr]
      rw [if_pos hr] at h
      exact wpAny_pure (by simpa [Nat.add_assoc] using h)
    · rw [if_neg hr]
      rw [if_neg hr] at h
      exact wpAny_bind (wpAny_rule (wpAny_pure (by simpa [Nat.add_assoc] using h)))
def side : κ ⊕ List κ → Bool
  | .inl _ => true
  | .inr _ => false
theorem eq_item {x y : κ ⊕ List κ} {u v : Value} {Q : Bool → Shared → Prop} (hu : A.units < cLine) (hs : side x = side y) (hx : ItemN knd s.heap x u) (hy : ItemN knd s.heap y v) (h : Q (decide (x = y)) s) : wpAny (model prog w) A (eqBool u v) Q E s := by
  cases x with
  | inl k =>
    cases y with
    | inl k' => exact knd.eqBool (a := k) (b := k') hx hy (by rw [show decide (k = k') = decide ((Sum.inl k : κ ⊕ List κ) = .inl k') by simp]; exact h)
    | inr l' => cases hs
  | inr l =>
    obtain ⟨b, rfl, hl⟩ := hx
    cases y with
    | inl k' => cases hs
    | inr l' =>
      obtain ⟨b', rfl, hl'⟩ := hy
      exact wpAny_eqBool_tuple hu hl hl' (by rw [show decide (l = l') = decide ((Sum.inr l : κ ⊕ List κ) = .inr l') by simp]; exact h)
theorem eq_tree {x y : NK κ} {a b : Addr} {P : Fin → Shared → Prop} (hu : A.units < cLine) (hsd : x.map side = y.map side) (hx : IsNK knd s.heap x a) (hy : IsNK knd s.heap y b) (h : P (.done (.ret (.bool (decide (x = y))))) s) :
    wpAny (model prog w) A (Builtin.«tuple.__eq__» ⟨[.ref a, .ref b], []⟩) P E s := by
  have hTb := hy.typeIs
  obtain ⟨oa, xs, na, hoa, _, hda, hia⟩ := hx
  obtain ⟨ob, ys, nb, hob, _, hdb, hib⟩ := hy
  show wpAny _ _ (isInstance (.ref b) (.type "tuple") >>= _) _ _ s
  refine wpAny_bind (wpAny_isInstance hTb isSubtype_tuple_tuple ?_)
  simp only [Bool.not_true, Bool.false_eq_true, if_false]
  refine wpAny_bind (wpAny_tupleItemsOf hoa hda ?_)
  refine wpAny_bind (wpAny_tupleItemsOf hob hdb ?_)
  refine wpAny_bind ?_
  refine wpAny_forIn_list _
    (fun rest r s' => r.1 = none ∧ s' = s ∧ ∃ x' y' xs' ys', rest = List.zip xs' ys' ∧ ItemsN knd s.heap x' xs' ∧ ItemsN knd s.heap y' ys' ∧ x'.map side = y'.map side ∧ decide (x' = y') = decide (x = y) ∧ (xs'.length == ys'.length) = (xs.size == ys.size))
    _ ?_ ?_ _ _ ⟨rfl, rfl, x, y, xs.toList, ys.toList, rfl, hia, hib, hsd, rfl, by simp⟩
  · rintro ⟨u, v⟩ rest r s' ⟨hr, rfl, x', y', xs', ys', hz, hx', hy', hsd', hdec, hlen⟩
    cases hx' with
    | nil => simp at hz
    | @cons k1 u' x'' xs'' h1 hx'' =>
      cases hy' with
      | nil => simp at hz
      | @cons k2 v' y'' ys'' h2 hy'' =>
        simp only [List.zip_cons_cons, List.cons.injEq, Prod.mk.injEq] at hz
        obtain ⟨⟨rfl, rfl⟩, rfl⟩ := hz
        simp only [List.map_cons, List.cons.injEq] at hsd'
        refine wpAny_bind (eq_item hu hsd'.1 h1 h2 ?_)
        by_cases hk : k1 = k2
        · subst hk
          rw [decide_eq_true rfl]
          simp only [Bool.not_true, Bool.false_eq_true, if_false]
          refine wpAny_pure ⟨rfl, rfl, x'', y'', xs'', ys'', rfl, hx'', hy'', hsd'.2, ?_, by simpa using hlen⟩
          rw [← hdec]
          by_cases hxy : x'' = y''
          · simp [hxy]
          · simp [hxy]
        · rw [decide_eq_false hk]
          simp only [Bool.not_false, if_true]
          have hf : decide (x = y) = false := by rw [← hdec]; simp [hk]
          rw [hf] at h
          exact wpAny_bind (wpAny_pure (wpAny_pure (wpAny_pure h)))
  · rintro ⟨r1, r2⟩ s' ⟨hr, rfl, x', y', xs', ys', hz, hx', hy', hsd', hdec, hlen⟩
    simp only at hr
    subst hr
    refine wpAny_pure ?_
    have hfin : (xs.size == ys.size) = decide (x = y) := by
      rw [← hdec, ← hlen]
      cases hx' with
      | nil =>
        cases hy' with
        | nil => simp
        | cons _ _ => simp
      | cons _ _ =>
        cases hy' with
        | nil => simp
        | cons _ _ => simp at hz
    show P (.done (.ret (.bool (xs.size == ys.size)))) s'
    rw [hfin]
    exact h
theorem eq_nk {x y : NK κ} {a b : Addr} {Q : Bool → Shared → Prop} (hu : A.units + 1 < cLine) (hsd : x.map side = y.map side) (hx : IsNK knd s.heap x a) (hy : IsNK knd s.heap y b) (h : Q (decide (x = y)) s) :
    wpAny (model prog w) A (eqBool (.ref a) (.ref b)) Q E s := by
  unfold eqBool
  try with_reducible refine wpAny_holding ?_
  show wpAny _ _ (if (Value.ref a == Value.ref b) = true then _ else _) Q E s
  by_cases hab : (Value.ref a == Value.ref b) = true
  · rw [if_pos hab]
    have e : a = b := by have := eq_of_beq hab; injection this
    subst e
    obtain rfl := hx.inj hy
    exact wpAny_bind (wpAny_rule (wpAny_pure (by simpa using h)))
  · rw [if_neg hab]
    exact wpAny_bind (wpAny_richCompare_same_room (op := .Eq) hx.typeIs hy.typeIs F.slot_tuple_eq
      (wpAny_call_entry F.slot_tuple_eq hx.typeIs F.entry_tuple_eq (eq_tree (by first | exact hu | exact Nat.lt_of_succ_lt hu) hsd hx hy ⟨_, rfl, (fun e => nomatch e), wpAny_truthy_bool h⟩) (F.args_tuple_eq_2 _ _)) (Nat.lt_of_succ_lt hu))
theorem quiet_tup (n : Nat) {ks : List κ} {a : Addr} {Q : Bool → Shared → Prop} (hk : IsTupleKey knd s.heap ks a) (h : Q true s) : wpAny (model prog w) A (eqIsQuiet (n + 1) (.ref a)) Q E s := by
  have hT := hk.typeIs
  obtain ⟨o, items, n', ho, _, hd, hi⟩ := hk
  unfold eqIsQuiet
  refine wpAny_bind (wpAny_specialOf hT F.slot_tuple_eq.lookup ?_)
  show wpAny _ _ (isInstance (.ref a) (.type "tuple") >>= _) _ _ s
  refine wpAny_bind (wpAny_isInstance hT isSubtype_tuple_tuple ?_)
  simp only [Bool.not_true, Bool.false_eq_true, if_false]
  refine wpAny_bind (wpAny_seqItems ho hd ?_)
  refine wpAny_bind ?_
  show wpAny _ _ (forIn items _ _) _ _ s
  rw [← Array.forIn_toList]
  refine wpAny_forIn_list _ (fun rest r s' => r.1 = none ∧ s' = s ∧ ∀ v ∈ rest, carriedByValue v = true) _ ?_ ?_ _ _ ⟨rfl, rfl, hi.byValue⟩
  · rintro v rest r s' ⟨hr, rfl, hall⟩
    rw [eqIsQuiet_byValue _ (hall v List.mem_cons_self)]
    refine wpAny_bind (wpAny_pure ?_)
    simp only [Bool.not_true, Bool.false_eq_true, if_false]
    exact wpAny_pure ⟨rfl, rfl, fun u hu' => hall u (List.mem_cons_of_mem _ hu')⟩
  · rintro ⟨r1, r2⟩ s' ⟨hr, rfl, _⟩
    simp only at hr
    subst hr
    exact wpAny_pure h
theorem quiet_nk {ks : NK κ} {a : Addr} {Q : Bool → Shared → Prop} (hk : IsNK knd s.heap ks a) (h : Q true s) : wpAny (model prog w) A (eqIsQuiet 8 (.ref a)) Q E s := by
  have hT := hk.typeIs
  obtain ⟨o, items, n', ho, _, hd, hi⟩ := hk
  unfold eqIsQuiet
  refine wpAny_bind (wpAny_specialOf hT F.slot_tuple_eq.lookup ?_)
  show wpAny _ _ (isInstance (.ref a) (.type "tuple") >>= _) _ _ s
  refine wpAny_bind (wpAny_isInstance hT isSubtype_tuple_tuple ?_)
  simp only [Bool.not_true, Bool.false_eq_true, if_false]
  refine wpAny_bind (wpAny_seqItems ho hd ?_)
  refine wpAny_bind ?_
  show wpAny _ _ (forIn items _ _) _ _ s
  rw [← Array.forIn_toList]
  refine wpAny_forIn_list _ (fun rest r s' => r.1 = none ∧ s' = s ∧ ∃ left, ItemsN knd s.heap left rest) _ ?_ ?_ _ _ ⟨rfl, rfl, ks, hi⟩
  · rintro v rest r s' ⟨hr, rfl, left, hall⟩
    cases hall with
    | @cons k _ ks' _ h1 hl' =>
      have go : ∀ {Q' : Bool → Shared → Prop}, Q' true s' → wpAny (model prog w) A (eqIsQuiet 7 v) Q' E s' := fun q => by
        cases k with
        | inl k =>
          rw [eqIsQuiet_byValue _ (knd.byValue _ _ h1)]
          exact wpAny_pure q
        | inr l =>
          obtain ⟨b, rfl, hl⟩ := h1
          exact quiet_tup 6 hl q
      refine wpAny_bind (go ?_)
      simp only [Bool.not_true, Bool.false_eq_true, if_false]
      exact wpAny_pure ⟨rfl, rfl, ks', hl'⟩
  · rintro ⟨r1, r2⟩ s' ⟨hr, rfl, _⟩
    simp only at hr
    subst hr
    exact wpAny_pure h
end
def nkKind {prog : Program} {w : World} {κ : Type} [DecidableEq κ] (knd : KeyKind prog w κ) (sh : List Bool) : HeapKind prog w (NK κ) where
  is := fun h ks a => IsNK knd h ks a ∧ ks.map side = sh
  hash := nkHash knd
  draws := nkDraws
  room := fun A => A.units + 1 < cLine
  inj := fun hx hy => hx.1.inj hy.1
  keeps := fun x ho hd hs => ⟨x.1.keeps ho hd hs, x.2⟩
  pyHash := fun hu hk h => hash_nk hu hk.1 h
  eqBool := fun hu hx hy h => eq_nk hu (hx.2.trans hy.2.symm) hx.1 hy.1 h
  quiet := fun hk h => quiet_nk hk.1 h
end GL
namespace GL
open PySem PySem.Spec PyProof.Rows L2
abbrev NKy := NK Int
def itemH : Int ⊕ List Int → Int
  | .inl k => hashInt k
  | .inr l => reduceHash (Builtin.Tuple.tupleHashOf (l.map hashInt))
def nkH (ks : NKy) : Int := reduceHash (Builtin.Tuple.tupleHashOf (ks.map itemH))
abbrev NL := List (NKy × Addr × V)
abbrev NV := List (NKy × Addr × Value)
abbrev NR : NL → NV → Prop := Paired fun p q => p.1 = q.1 ∧ p.2.1 = q.2.1 ∧ RelV p.2.2 q.2.2
def ndW (d : Addr) (L : NL) (h : Heap) : Prop := L.length ≤ sizeLine ∧ (d == sysModules) = false ∧ (L.map (·.1)).Nodup ∧
  ∃ xs : NV, NR L xs ∧ ∃ o es ep, h.get? d = some o ∧ o.ExactDict ∧ o.data = .dict es ep ∧ es.toList = xs.map fun x => ⟨nkH x.1, .ref x.2.1, x.2.2⟩
abbrev ndH (d : Addr) (L : NL) : HO := .ext (ndW d L)
def valN (L : NL) (k : NKy) : Option V := (L.find? fun e => decide (e.1 = k)).map (·.2.2)
def putN (L : NL) (k : NKy) (a : Addr) (v : V) : NL := if (valN L k).isSome = true then L.map (fun e => if e.1 = k then (e.1, e.2.1, v) else e) else L ++ [(k, a, v)]
def ItV (K : PySem.W.Frag) (H : Hp) : Int ⊕ List Int → V → Prop
  | .inl n, v => v = .int n
  | .inr l, v => ∃ b, v = .ref b ∧ SqT K H b (l.map .int)
def ItsV (K : PySem.W.Frag) (H : Hp) : NKy → List V → Prop
  | [], [] => True
  | k :: ks, v :: vs => ItV K H k v ∧ ItsV K H ks vs
  | _, _ => False
def KeyV (K : PySem.W.Frag) (H : Hp) (k : NKy) (a : Addr) : Prop := ∃ vs, SqT K H a vs ∧ ItsV K H k vs
def AllK (K : PySem.W.Frag) (H : Hp) (sh : List Bool) (L : NL) : Prop := ∀ e ∈ L, KeyV K H e.1 e.2.1 ∧ e.1.map side = sh
section
variable {X : Cx} {pins : List (Addr × Obj)} {σ : L2.St} {H : Hp} {s : Shared}
theorem ints_key {P : Program} {w : World} : ∀ {l : List Int} {its : List Value}, Vals (l.map V.int) its → ItemsAre (intKind P w) l its
  | [], [], _ => .nil
  | n :: l, v :: its, h => by
    cases h with
    | cons h1 h2 =>
      obtain ⟨t, rfl⟩ := h1
      exact .cons (by show Value.isInt n (.int n t) = true; simp [Value.isInt]) (ints_key h2)
theorem ItsV.at_ (I : Inv X pins σ H s) : ∀ {k : NKy} {vs : List V} {its : List Value}, ItsV X.K H k vs → Vals vs its → ItemsN (intKind X.prog X.w) s.heap k its
  | [], [], its, _, h => by cases h; exact .nil
  | .inl n :: ks, v :: vs, its, ⟨h1, h2⟩, h => by
    cases h with
    | cons r1 r2 =>
      rw [show v = .int n from h1] at r1
      obtain ⟨t, rfl⟩ := r1
      exact .cons (by show Value.isInt n (.int n t) = true; simp [Value.isInt]) (ItsV.at_ I h2 r2)
  | .inr l :: ks, v :: vs, its, ⟨h1, h2⟩, h => by
    cases h with
    | cons r1 r2 =>
      obtain ⟨b, rfl, hb⟩ := h1
      rw [show _ = Value.ref b from r1]
      obtain ⟨its', hv, hT, _⟩ := I.tuple hb
      obtain ⟨o, ho, hc, n, hd⟩ := hT
      exact .cons ⟨b, rfl, o, its'.toArray, n, ho, hc, hd, by simpa using ints_key hv⟩ (ItsV.at_ I h2 r2)
  | [], _ :: _, _, h, _ => h.elim
  | .inl _ :: _, [], _, h, _ => h.elim
  | .inr _ :: _, [], _, h, _ => h.elim
theorem KeyV.at_ (I : Inv X pins σ H s) {k : NKy} {a : Addr} (h : KeyV X.K H k a) : IsNK (intKind X.prog X.w) s.heap k a := by
  obtain ⟨vs, h1, h2⟩ := h
  obtain ⟨its, hv, hT, _⟩ := I.tuple h1
  obtain ⟨o, ho, hc, n, hd⟩ := hT
  exact ⟨o, its.toArray, n, ho, hc, hd, by simpa using h2.at_ I hv⟩
theorem NR.keys : ∀ {L : NL} {xs : NV}, NR L xs → L.map (·.1) = xs.map (·.1)
  | _, _, .nil => rfl
  | _, _, .cons h t => by rw [List.map_cons, List.map_cons, h.1, NR.keys t]
theorem NR.all {p : NKy → Addr → Prop} : ∀ {L : NL} {xs : NV}, NR L xs → (∀ e ∈ L, p e.1 e.2.1) → ∀ x ∈ xs, p x.1 x.2.1
  | _, _, .nil, _, x, hx => nomatch hx
  | _, _, .cons h t, q, x, hx => by
    rcases List.mem_cons.mp hx with e | hx
    · subst e
      rw [← h.1, ← h.2.1]
      exact q _ List.mem_cons_self
    · exact NR.all t (fun e he => q e (List.mem_cons_of_mem _ he)) x hx
theorem NR.val (k : NKy) : ∀ {L : NL} {xs : NV}, NR L xs → RelO (valN L k) ((atKey xs k).map (·.2))
  | _, _, .nil => True.intro
  | _, _, @Paired.cons _ _ _ p q L xs h t => by
    unfold valN atKey
    by_cases e : p.1 = k
    · rw [List.find?_cons, List.find?_cons, decide_eq_true e, decide_eq_true (by rw [← h.1]; exact e)]
      exact h.2.2
    · rw [List.find?_cons, List.find?_cons, decide_eq_false e, decide_eq_false (by rw [← h.1]; exact e)]
      exact NR.val k t
theorem NR.put {k : NKy} {a : Addr} {v : V} {u : Value} (rv : RelV v u) {L : NL} {xs : NV} (r : NR L xs) : NR (putN L k a v) (storedH xs k a u) := by
  have e : (valN L k).isSome = (atKey xs k).isSome := by
    have := (r.val k).isSome_eq
    rw [Option.isSome_map] at this
    exact this
  unfold putN storedH
  rw [e]
  by_cases q : (atKey xs k).isSome = true
  · rw [if_pos q, if_pos q]
    clear e q
    induction r with
    | nil => exact .nil
    | @cons p q L xs h t ih =>
      refine .cons ?_ ih
      unfold putAt
      dsimp only
      by_cases c : p.1 = k
      · rw [if_pos c, if_pos (by rw [← h.1]; exact c)]
        exact ⟨h.1, h.2.1, rv⟩
      · rw [if_neg c, if_neg (by rw [← h.1]; exact c)]
        exact h
  · rw [if_neg q, if_neg q]
    exact Paired.snoc r ⟨rfl, rfl, rv⟩
variable {A : Around} {E : Value → Shared → Prop} {d b : Addr} {sh : List Bool} {L : NL} {k : NKy} {v : V} {u r : Value}
structure NAt (K : PySem.W.Frag) (H : Hp) (d : Addr) (L : NL) (b : Addr) (k : NKy) : Prop where
  e : H d = some (ndH d L)
  ak : AllK K H (k.map side) L
  kb : KeyV K H k b
end
def tNNew : TE := fun _ H Q => ∀ p, H p = none → Q (.ref p) (upd H p (ndH p []))
def tNGet (K : PySem.W.Frag) (td ty : TE) : TE := fun σ H Q => td σ H fun x H1 => ty σ H1 fun y H2 => ∃ d b L k v, x = .ref d ∧ y = .ref b ∧ NAt K H2 d L b k ∧ valN L k = some v ∧ Q v H2
def tNIn (K : PySem.W.Frag) (ty td : TE) : TE := fun σ H Q => ty σ H fun y H1 => td σ H1 fun x H2 => ∃ d b L k, x = .ref d ∧ y = .ref b ∧ NAt K H2 d L b k ∧ Q (.bl (valN L k).isSome) H2
def tNNotIn (K : PySem.W.Frag) (ty td : TE) : TE := fun σ H Q => ty σ H fun y H1 => td σ H1 fun x H2 => ∃ d b L k, x = .ref d ∧ y = .ref b ∧ NAt K H2 d L b k ∧ Q (.bl (!(valN L k).isSome)) H2
def sNPut (K : PySem.W.Frag) (td ty tv : TE) : TS := fun D σ H => tv σ H fun v H1 => td σ H1 fun x H2 => ty σ H2 fun y H3 => ∃ d b L k, x = .ref d ∧ y = .ref b ∧ NAt K H3 d L b k ∧ L.length < sizeLine ∧ D.nx σ (upd H3 d (ndH d (putN L k b v)))
section
variable {X : Cx} {o i e value : Expr} {pos pos' tpos : Pos} {td ty tv : TE}
end
end GL
namespace GL
open PySem PySem.Spec PyProof.Rows L2
instance : Inhabited Dat := ⟨.non⟩
namespace Dat
def isT : Dat → Bool
  | .tup _ => true
  | _ => false
def isL : Dat → Bool
  | .lst _ => true
  | _ => false
def isS : Dat → Bool
  | .str _ => true
  | _ => false
def isBl : Dat → Bool
  | .bl _ => true
  | _ => false
def isI : Dat → Bool
  | .int _ => true
  | .bl _ => true
  | _ => false
def isInt : Dat → Bool
  | .int _ => true
  | _ => false
def toI : Dat → Int
  | .int i => i
  | _ => 0
def items : Dat → List Dat
  | .tup l => l
  | .lst l => l
  | _ => []
end Dat
theorem drep_ints {K : Fg} {S : Hp} : ∀ l : List Int, DRepL K S (l.map V.int) (l.map Dat.int)
  | [] => .nil
  | _ :: l => .cons (.int _) (drep_ints l)
section
variable {K : Fg} {G G1 : List Sl} {ta te : TE}
instance : ToD WRow := ⟨fun r => .tup (.str r.word :: r.nums.map .int), fun ⟨p, h1, h2⟩ => by
  rw [h1]
  exact .tup h2 (.cons (.str _) (drep_ints _))⟩
instance {α β : Type} [Py α] [Py β] [ToD α] [ToD β] : ToD (H2 α β) := ⟨fun x => .lst [ToD.dat x.a, ToD.dat x.b], fun ⟨p, a, b, h1, h2, h3, h4⟩ => by rw [h1]; exact .lst h2 (.cons (ToD.of h3) (.cons (ToD.of h4) .nil))⟩
end
def btwD (d : Dat) (lo hi : Int) : Bool := d.isInt && (decide (lo ≤ d.toI) && decide (d.toI ≤ hi))
def standD (n w m : Int) (d : Dat) : Bool := d.isT && (decide (d.items.length = 2) && (btwD (ix d.items 0) 0 m && ((ix d.items 1).isT && (decide (((ix d.items 1).items.length : Int) = n) && (ix d.items 1).items.all fun x => btwD x 0 (w - 1)))))
end GL
namespace GL
open PySem PySem.Spec PyProof.Rows L2
section
variable {α τ : Type}
def EvW [Py α] (K : Fg) (te : TE) (G : List Sl) (R : τ → Prop) (x : τ → α) (st : τ → List Sl) : Prop :=
  ∀ B S0 S σ H F, Kn K B S0 S σ H F G → ∀ Q : VK, (∀ w, R w → ∀ v S' H', Same S S' → Kn K B S0 S' σ H' F (st w) → Py.rep K S' v (x w) → Q v H') → te σ H Q
def EvAW [PyA α] (K : Fg) (ta : TA) (G : List Sl) (R : τ → Prop) (x : τ → α) (st : τ → List Sl) : Prop :=
  ∀ B S0 S σ H F, Kn K B S0 S σ H F G → ∀ Q : List V → Hp → Prop, (∀ w, R w → ∀ vs S' H', Same S S' → Kn K B S0 S' σ H' F (st w) → PyA.rep K S' vs (x w) → Q vs H') → ta σ H Q
def EvLsW [Py α] (K : Fg) (ta : TA) (G : List Sl) (R : τ → Prop) (x : τ → List α) (st : τ → List Sl) : Prop :=
  ∀ B S0 S σ H F, Kn K B S0 S σ H F G → ∀ Q : List V → Hp → Prop, (∀ w, R w → ∀ vs S' H', Same S S' → Kn K B S0 S' σ H' F (st w) → RepL K S' vs (x w) → Q vs H') → ta σ H Q
end
def EvTW {τ : Type} (K : Fg) (tt : TT) (G : List Sl) (R : τ → Prop) (b : τ → Bool) (st : τ → List Sl) : Prop :=
  ∀ B S0 S σ H F, Kn K B S0 S σ H F G → ∀ Q : Bool → Hp → Prop, (∀ w, R w → ∀ S' H', Same S S' → Kn K B S0 S' σ H' F (st w) → Q (b w) H') → tt σ H Q
def spQ {α β : Type} [PyA α] [Py β] (K : Fg) (R : α → β → Prop) (pre : α → Prop) : Sp := fun vs H Q _ => ∃ (S : Hp) (a : α), Same S H ∧ PyA.rep K S vs a ∧ pre a ∧ ∀ y v S' H', Grow S H S' H' → R a y → Py.rep K S' v y → Q v H'
section
variable {K : Fg} {B S0 S1 S S' D : Hp} {σ : L2.St} {H H' : Hp} {F : Nat → List Addr} {G G' G1 G2 G3 : List Sl} {ta tb tc te : TE} {i j : Nat} {t u w : TS} {E : Ends} {tt : TT} {g : TG} {X : XK}
variable {α β γ τ τ2 : Type}
section
variable [Py α] [Py β] {R : τ → Prop} {x : τ → α} {st : τ → List Sl} {y : α}
end
end
section
variable {P : Program} {w : World} {K : Fg} {mg : Str → Option Value} {base : Heap} {α β : Type} [Sls α] [Py β]
end
end GL
namespace GL
open PySem PySem.Spec PyProof.Rows L2
section
variable {K : Fg} {G : List Sl} {te : TE} {α τ : Type} [Py α]
theorem EvW.dat [ToD α] {R : τ → Prop} {x : τ → α} {st : τ → List Sl} (h : EvW K te G R x st) : EvW K te G R (fun w => ToD.dat (x w)) st := fun B S0 S σ H F k Q q => h B S0 S σ H F k Q fun w hw v S' H' e k' r => q w hw v S' H' e k' (ToD.of r)
end
end GL
namespace GL
open PySem PySem.Spec PyProof.Rows L2
section
variable {K : Fg} {G : List Sl} {te : TE} {τ : Type} {R : τ → Prop} {x : τ → Bool} {st : τ → List Sl} {c : Bool}
end
end GL
namespace GL
open PySem PySem.Spec PyProof.Rows L2
class NKey (α : Type) extends Py α where
  key : α → NKy
  inj : ∀ {x y : α}, key x = key y → x = y
  sh : List Bool
  shp : ∀ x : α, (key x).map side = sh
  at_ : ∀ {K : Fg} {S : Hp} {v : V} {x : α}, Py.rep K S v x → ∃ b, v = .ref b ∧ KeyV K S (key x) b
theorem KeyV.mono {K : Fg} {S S' : Hp} (e : Same S S') {k : NKy} {a : Addr} (h : KeyV K S k a) : KeyV K S' k a := by
  obtain ⟨vs, h1, h2⟩ := h
  refine ⟨vs, seqT e h1, ?_⟩
  clear h1
  revert vs
  induction k with
  | nil =>
    intro vs h2
    cases vs with
    | nil => exact True.intro
    | cons _ _ => exact h2.elim
  | cons k ks ih =>
    intro vs h2
    cases vs with
    | nil => cases k <;> exact h2.elim
    | cons v vs =>
      refine ⟨?_, ih vs h2.2⟩
      have h3 := h2.1
      cases k with
      | inl n => exact h3
      | inr l =>
        obtain ⟨b, e1, hb⟩ := h3
        exact ⟨b, e1, seqT e hb⟩
theorem tp_key {K : Fg} {S : Hp} {v : V} {x : Tp Int} (r : Py.rep K S v x) : ItV K S (.inr x.l) v := by
  obtain ⟨p, vs, rfl, hp, hr⟩ := r
  rw [hr.ints] at hp
  exact ⟨p, rfl, hp⟩
instance : NKey (Int × Int) where
  key x := [.inl x.1, .inl x.2]
  inj {x y} h := by
    simp only [List.cons.injEq, Sum.inl.injEq, and_true] at h
    exact Prod.ext h.1 h.2
  sh := [true, true]
  shp _ := rfl
  at_ r := by
    obtain ⟨p, a, b, rfl, hp, ra, rb⟩ := r
    exact ⟨p, rfl, _, hp, ra, rb, True.intro⟩
instance : NKey (Int × Tp Int) where
  key x := [.inl x.1, .inr x.2.l]
  inj {x y} h := by
    simp only [List.cons.injEq, Sum.inl.injEq, Sum.inr.injEq, and_true] at h
    obtain ⟨a, ⟨b⟩⟩ := x
    obtain ⟨c, ⟨d⟩⟩ := y
    obtain ⟨h1, h2⟩ := h
    dsimp only at h1 h2
    rw [h1, h2]
  sh := [true, false]
  shp _ := rfl
  at_ r := by
    obtain ⟨p, a, b, rfl, hp, ra, rb⟩ := r
    exact ⟨p, rfl, _, hp, ra, tp_key rb, True.intro⟩
instance : NKey (T4 Int Int (Tp Int) (Tp Int)) where
  key x := [.inl x.a, .inl x.b, .inr x.c.l, .inr x.d.l]
  inj {x y} h := by
    simp only [List.cons.injEq, Sum.inl.injEq, Sum.inr.injEq, and_true] at h
    obtain ⟨a, b, ⟨c⟩, ⟨d⟩⟩ := x
    obtain ⟨a', b', ⟨c'⟩, ⟨d'⟩⟩ := y
    obtain ⟨h1, h2, h3, h4⟩ := h
    dsimp only at h1 h2 h3 h4
    rw [h1, h2, h3, h4]
  sh := [true, true, false, false]
  shp _ := rfl
  at_ r := by
    obtain ⟨p, a, b, c, d, rfl, hp, ra, rb, rc, rd⟩ := r
    exact ⟨p, rfl, _, hp, ra, rb, tp_key rc, tp_key rd, True.intro⟩
structure DN (α β : Type) where
  l : List (α × β)
namespace DN
variable {α β : Type} [DecidableEq α]
def get? (d : DN α β) (k : α) : Option β := (d.l.find? fun e => decide (e.1 = k)).map (·.2)
def put (d : DN α β) (k : α) (x : β) : DN α β := ⟨if (d.get? k).isSome = true then d.l.map (fun e => if e.1 = k then (e.1, x) else e) else d.l ++ [(k, x)]⟩
def emp : DN α β := ⟨[]⟩
theorem put_len (d : DN α β) (k : α) (x : β) : (d.put k x).l.length ≤ d.l.length + 1 := by
  unfold put
  dsimp only
  split
  · rw [List.length_map]; omega
  · rw [List.length_append]; exact Nat.le_refl _
end DN
section
variable {α β : Type} [NKey α] [Py β] [DecidableEq α] {K : Fg} {S S' H H' : Hp}
def RepN (K : Fg) (S : Hp) : NL → List (α × β) → Prop
  | [], [] => True
  | e :: L, x :: xs => (e.1 = NKey.key x.1 ∧ Py.rep K S (.ref e.2.1) x.1 ∧ Py.rep K S e.2.2 x.2) ∧ RepN K S L xs
  | _, _ => False
theorem RepN.mono (e : Same S S') : ∀ {L : NL} {xs : List (α × β)}, RepN K S L xs → RepN K S' L xs
  | [], [], _ => True.intro
  | _ :: _, _ :: _, h => ⟨⟨h.1.1, Py.mono e h.1.2.1, Py.mono e h.1.2.2⟩, RepN.mono e h.2⟩
  | [], _ :: _, h => h.elim
  | _ :: _, [], h => h.elim
theorem RepN.len : ∀ {L : NL} {xs : List (α × β)}, RepN K S L xs → L.length = xs.length
  | [], [], _ => rfl
  | _ :: L, _ :: xs, h => by rw [List.length_cons, List.length_cons, RepN.len h.2]
  | [], _ :: _, h => h.elim
  | _ :: _, [], h => h.elim
theorem key_dec (x y : α) : decide ((NKey.key x : NKy) = NKey.key y) = decide (x = y) := by
  by_cases e : x = y
  · rw [e]; simp
  · rw [decide_eq_false e, decide_eq_false fun q => e (NKey.inj q)]
theorem RepN.val (k : α) : ∀ {L : NL} {xs : List (α × β)}, RepN K S L xs → match (xs.find? fun e => decide (e.1 = k)).map (·.2) with
    | some y => ∃ v, valN L (NKey.key k) = some v ∧ Py.rep K S v y
    | none => valN L (NKey.key k) = none
  | [], [], _ => rfl
  | e :: L, x :: xs, h => by
    have ed : decide (e.1 = NKey.key k) = decide (x.1 = k) := by rw [h.1.1, key_dec]
    unfold valN
    rw [List.find?_cons, List.find?_cons, ed]
    by_cases c : x.1 = k
    · rw [decide_eq_true c]
      exact ⟨e.2.2, rfl, h.1.2.2⟩
    · rw [decide_eq_false c]
      exact RepN.val k h.2
  | [], _ :: _, h => h.elim
  | _ :: _, [], h => h.elim
theorem RepN.isSome {d : DN α β} {L : NL} (h : RepN K S L d.l) (k : α) : (valN L (NKey.key k)).isSome = (d.get? k).isSome := by
  have := h.val k
  unfold DN.get?
  revert this
  cases (d.l.find? fun e => decide (e.1 = k)).map (·.2) with
  | none => intro q; rw [show valN L (NKey.key k) = none from q]; rfl
  | some y => intro ⟨v, q, _⟩; rw [q]; rfl
theorem RepN.put {d : DN α β} {L : NL} (h : RepN K S L d.l) {k : α} {y : β} {a : Addr} {v : V} (ra : Py.rep K S (.ref a) k) (rv : Py.rep K S v y) : RepN K S (putN L (NKey.key k) a v) (d.put k y).l := by
  unfold putN DN.put
  rw [h.isSome k]
  dsimp only
  by_cases c : (d.get? k).isSome = true
  · rw [if_pos c, if_pos c]
    clear c
    revert h
    generalize d.l = xs
    revert xs
    induction L with
    | nil =>
      intro xs h
      cases xs with
      | nil => exact True.intro
      | cons _ _ => exact h.elim
    | cons e L ih =>
      intro xs h
      cases xs with
      | nil => exact h.elim
      | cons x xs =>
        refine ⟨?_, ih xs h.2⟩
        by_cases q : x.1 = k
        · have q' : e.1 = NKey.key k := by rw [h.1.1, q]
          dsimp only
          rw [if_pos q, if_pos q']
          exact ⟨h.1.1, h.1.2.1, rv⟩
        · have q' : ¬ e.1 = NKey.key k := by rw [h.1.1]; exact fun z => q (NKey.inj z)
          dsimp only
          rw [if_neg q, if_neg q']
          exact h.1
  · rw [if_neg c, if_neg c]
    clear c
    revert h
    generalize d.l = xs
    revert xs
    induction L with
    | nil =>
      intro xs h
      cases xs with
      | nil => exact ⟨⟨rfl, ra, rv⟩, True.intro⟩
      | cons _ _ => exact h.elim
    | cons e L ih =>
      intro xs h
      cases xs with
      | nil => exact h.elim
      | cons x xs => exact ⟨h.1, ih xs h.2⟩
theorem RepN.all (e : Same S H) : ∀ {L : NL} {xs : List (α × β)}, RepN K S L xs → AllK K H (NKey.sh α) L
  | [], [], _ => fun _ h => nomatch h
  | e1 :: L, x :: xs, h => fun q hq => by
    rcases List.mem_cons.mp hq with rfl | hq
    · obtain ⟨b, eb, hk⟩ := NKey.at_ h.1.2.1
      cases eb
      exact ⟨by rw [h.1.1]; exact hk.mono e, by rw [h.1.1]; exact NKey.shp _⟩
    · exact RepN.all e h.2 q hq
  | [], _ :: _, h => h.elim
  | _ :: _, [], h => h.elim
instance : Own (DN α β) := ⟨fun K S H v ps x => ∃ p L, v = .ref p ∧ ps = [p] ∧ H p = some (ndH p L) ∧ RepN K S L x.l, fun {K S S' H H' v ps x} e a ⟨p, L, h1, h2, h3, h4⟩ =>
  ⟨p, L, h1, h2, by rw [a p (by rw [h2]; exact List.mem_singleton.mpr rfl)]; exact h3, h4.mono e⟩⟩
end
section
variable {α β : Type} [NKey α] [Py β] [DecidableEq α] {K : Fg} {B S0 S1 S S' D : Hp} {σ : L2.St} {H H' : Hp} {F : Nat → List Addr} {G G' G1 G2 G3 : List Sl} {ta tb te : TE} {i j : Nat} {t u : TS} {E : Ends} {d d' : DN α β} {k : α} {y : β}
def nix [Inhabited β] (d : DN α β) (k : α) : β := (d.get? k).getD default
end
instance {α β : Type} [Py α] [Py β] [ToD α] [ToD β] : ToD (Sum α β) := ⟨fun x => match x with | .inl y => ToD.dat y | .inr y => ToD.dat y, fun {K S v x} h => by
  cases x with
  | inl y => exact ToD.of (x := y) h
  | inr y => exact ToD.of (x := y) h⟩
section
variable {K : Fg} {B S0 : Hp} {G G1 : List Sl} {tt : TT} {b : Bool} {t w u : TS} {E : Ends}
end
def ItGW {α τ : Type} [Py α] (K : Fg) (wi : TI) (G : List Sl) (R : τ → Prop) (xs : τ → List α) (st : τ → List Sl) : Prop :=
  ∀ B S0 S σ H F, Kn K B S0 S σ H F G → ∀ Q : It → Hp → Prop, (∀ w, R w → ∀ J S' H', Same S S' → Kn K B S0 S' σ H' F (st w) → Wk K J S' (xs w) → Q J H') → wi σ H Q
section
variable {α τ ρ : Type} [Py α] {K : Fg} {B S0 : Hp} {G : List Sl} {wi : TI} {R : τ → Prop} {xs : τ → List α} {st : τ → List Sl} {g : TG} {tb u : TS} {E : Ends} {te : TE}
end
end GL
namespace GL
open PySem PySem.W PySem.Calls PyProof.Rows PyProof.V PySem.Spec
section
variable {prog : Program} {w : World} {A : Around} {E : Value → Shared → Prop} {s : Shared} {it d : Addr} {i ep : Nat} {es : Array DictEntry}
end
end GL
namespace GL
open PySem PySem.Spec PyProof.Rows L2
section
variable {X : Cx}
def rSortN (K : PySem.W.Frag) : List V → Hp → VK → Prop := fun vs H Q => ∃ (d : Addr) (L : NL), vs = [V.ref d] ∧ H d = some (ndH d L) ∧ (∀ e ∈ L, ∃ m n : Int, SqT K H e.2.1 [V.int m, V.int n]) ∧
  ∀ (ys : List V) (p : Addr), ys.Perm (L.map fun e => V.ref e.2.1) → ys.Pairwise (fun x y => ∀ m n m' n', TupI K H x [m, n] → TupI K H y [m', n'] → le2 (m, n) (m', n')) → H p = none → Q (.ref p) (upd H p (.lst ys))
end
section
variable {K : Fg} {G : List Sl} {i : Nat} {β : Type} [Py β] {d : DN (Int × Int) β}
end
end GL
namespace GL
open PySem PySem.Spec PyProof.Rows L2
section
variable {n stop : Int} {T : List (Tp Int)} {cs : List (Int × Int)}
theorem sub_len : ∀ {xs ys : List Int}, xs.Nodup → (∀ x ∈ xs, x ∈ ys) → xs.length ≤ ys.length
  | [], _, _, _ => Nat.zero_le _
  | x :: xs, ys, h, hs => by
    have h1 := List.nodup_cons.mp h
    have ih := sub_len (xs := xs) (ys := ys.erase x) h1.2 fun y hy => (List.mem_erase_of_ne (fun e : y = x => h1.1 (e ▸ hy))).mpr (hs y (List.mem_cons_of_mem _ hy))
    have hx := hs x List.mem_cons_self
    have h2 := List.length_erase_of_mem hx
    have h3 := List.length_pos_of_mem hx
    rw [List.length_cons]
    omega
theorem all_there (x : Int) (hx : x ∈ rng 0 n) : x ∈ cs.map (·.2) ++ leftM n T (cs, stop) := by
  rw [List.mem_append]
  by_cases e : x ∈ cs.map (·.2)
  · exact .inl e
  · refine .inr ?_
    rw [left_eq, List.mem_filter]
    refine ⟨hx, ?_⟩
    have : tks cs stop x = [] := by
      unfold tks
      rw [List.map_eq_nil_iff, List.filter_eq_nil_iff]
      intro c hc q
      exact e (List.mem_map.mpr ⟨c, hc, of_decide_eq_true (Bool.and_eq_true_iff.mp q).1⟩)
    show lfT T cs stop x = true
    unfold lfT
    rw [this]
    rfl
theorem carried_ge (hn : 0 ≤ n) : n ≤ (cs.length : Int) + ((leftM n T (cs, stop)).length : Int) := by
  have h := sub_len (rng_nodup 0 n) (all_there (T := T) (cs := cs) (stop := stop))
  rw [len_rng, List.length_append, List.length_map] at h
  omega
theorem maxL_le {xs : List Int} {m : Int} (h : xs ≠ []) (g : ∀ y ∈ xs, y ≤ m) : maxL xs ≤ m := g _ (maxL_mem h)
end
end GL
namespace GL
open PySem PySem.Spec PyProof.Rows L2
theorem cnt_round {b tick t : Int} {W : List Int} (hb : 1 ≤ b) : cntA (cpsR b (tick, ⟨W⟩)) t ≤ b := by
  unfold cntA cpsR
  rw [List.filter_map, List.length_map]
  have hs := nodup_sub_le (xs := ((enumI W).filter ((fun p : Int × Int => decide (p.1 = t)) ∘ fun x => (tick + x.1 / b, x.2))).map (·.1)) (ys := rng ((t - tick) * b) ((t - tick) * b + b)) ?_ (fun x hx => ?_)
  · rw [List.length_map, len_rng] at hs
    have : ((t - tick) * b + b - (t - tick) * b).toNat = b.toNat := by rw [show (t - tick) * b + b - (t - tick) * b = b by omega]
    rw [this] at hs
    dsimp only at hs ⊢
    omega
  · have h0 : ((enumI W).map (·.1)).Nodup := by
      unfold enumI
      rw [List.map_map]
      have : ((fun (x : Int × Int) => x.1) ∘ fun p : Int × Nat => ((p.2 : Int), p.1)) = fun p : Int × Nat => (p.2 : Int) := rfl
      rw [this]
      have h1 : (W.zipIdx.map fun p => p.2).Nodup := by
        rw [List.zipIdx_map_snd]
        exact List.nodup_range'
      have h2 : (W.zipIdx.map fun p : Int × Nat => (p.2 : Int)) = (W.zipIdx.map fun p => p.2).map fun k : Nat => (k : Int) := by rw [List.map_map]; rfl
      rw [h2]
      exact List.pairwise_map.mpr (h1.imp fun {a b} hne e => hne (by omega))
    exact h0.sublist ((List.filter_sublist ..).map _)
  · obtain ⟨y, hy, rfl⟩ := List.mem_map.mp hx
    obtain ⟨hy1, hy2⟩ := List.mem_filter.mp hy
    have e : tick + y.1 / b = t := of_decide_eq_true hy2
    have q1 : b * (y.1 / b) ≤ y.1 := Int.mul_ediv_self_le (by omega)
    have q2 : y.1 < b * (y.1 / b) + b := Int.lt_mul_ediv_self_add (by omega)
    have e2 : t - tick = y.1 / b := by omega
    rw [e2, Int.mul_comm]
    exact mem_rng.mpr ⟨q1, q2⟩
theorem nodup_round {b tick : Int} {W : List Int} (hW : W.Nodup) : (cpsR b (tick, ⟨W⟩)).Nodup := by
  unfold cpsR
  have h1 : ((enumI W).map fun x : Int × Int => x.2).Nodup := by rw [enumI_snd]; exact hW
  have h2 : ((enumI W).map fun x : Int × Int => (tick + x.1 / b, x.2)).map (·.2) = (enumI W).map fun x : Int × Int => x.2 := by rw [List.map_map]; rfl
  rw [← h2] at h1
  exact nodup_of_map h1
structure RK (n b : Int) (s : RS) : Prop where
  nd : (cpsOf b s.1).Nodup
  cnt : ∀ t, cntA (cpsOf b s.1) t ≤ b
  sh : ∀ c ∈ cpsOf b s.1, 0 ≤ c.2 ∧ c.2 < n
  few : ∀ r ∈ s.1, r.2.l.length ≤ n.toNat
theorem cnt_app {l l' : List (Int × Int)} {t : Int} : cntA (l ++ l') t = cntA l t + cntA l' t := by
  unfold cntA
  rw [List.filter_append, List.length_append]
  omega
theorem cnt_none {l : List (Int × Int)} {t : Int} (h : ∀ c ∈ l, c.1 ≠ t) : cntA l t = 0 := by
  unfold cntA
  rw [List.filter_eq_nil_iff.mpr fun c hc => by have := h c hc; simp; exact this]
  rfl
theorem RK.start {n b : Int} (hb : 1 ≤ b) : RK n b ([], Dct.emp, 0, rng 0 n) := ⟨List.nodup_nil, fun t => by show ((0 : Nat) : Int) ≤ b; omega, (fun c h => nomatch h), (fun c h => nomatch h)⟩
theorem RK.next {n b most sl : Int} {T : List (Tp Int)} {s : RS} (P : RdP n T b most) (h : RJ n b most T s) (k : RK n b s) (hc : rdC most sl s = true) : RK n b (rdN n T b s) := by
  have hb := P.b0
  have hdn : s.2.2.2.Nodup := by rw [h.due, left_eq]; exact (rng_nodup 0 n).filter _
  have hdl : s.2.2.2.length ≤ n.toNat := by rw [h.due]; exact left_len n T _
  have eC : cpsOf b (rdN n T b s).1 = cpsOf b s.1 ++ cpsR b (s.2.2.1, ⟨s.2.2.2⟩) := cpsOf_snoc b s.1 _
  refine ⟨?_, fun t => ?_, fun c hcm => ?_, fun r hr => ?_⟩
  · rw [eC]
    refine List.nodup_append.mpr ⟨k.nd, nodup_round hdn, fun c hc1 c' hc2 e => ?_⟩
    have h1 := h.cb c hc1
    have h2 := cpsR_bd hb hc2
    rw [e] at h1
    omega
  · rw [eC, cnt_app]
    by_cases c : t < s.2.2.1
    · rw [cnt_none (l := cpsR b _) fun c' hc' => by have := cpsR_bd hb hc'; omega]
      have := k.cnt t
      omega
    · rw [cnt_none (l := cpsOf b s.1) fun c' hc' => by have := h.cb c' hc'; omega]
      have := cnt_round (b := b) (tick := s.2.2.1) (t := t) (W := s.2.2.2) hb
      omega
  · rw [eC] at hcm
    rcases List.mem_append.mp hcm with q | q
    · exact k.sh c q
    · unfold cpsR at q
      obtain ⟨y, hy, rfl⟩ := List.mem_map.mp q
      have hy2 : y.2 ∈ s.2.2.2 := enumI_fst (xs := s.2.2.2) hy
      exact h.I.due _ hy2
  · have hr : r ∈ s.1 ++ [(s.2.2.1, (⟨s.2.2.2⟩ : Tp Int))] := hr
    rcases List.mem_append.mp hr with q | q
    · exact k.few r q
    · rw [List.mem_singleton.mp q]; exact hdl
theorem whl_RK {n b most sl : Int} {T : List (Tp Int)} (P : RdP n T b most) : ∀ (k : Nat) (s : RS), RJ n b most T s → RK n b s → ∃ s', RJ n b most T s' ∧ RK n b s' ∧ (rdC most sl s' = false ∨ s'.1.length = s.1.length + k) ∧ s.2.2.1 ≤ s'.2.2.1 ∧ whl (rdC most sl) (rdB n T b) rdK k s = rdK s'
  | 0, s, h, q => ⟨s, h, q, .inr rfl, Int.le_refl _, rfl⟩
  | k + 1, s, h, q => by
    rw [whl]
    by_cases c : rdC most sl s = true
    · rw [if_pos c]
      obtain ⟨s', a1, a2, a3, a4, a5⟩ := whl_RK P k (rdN n T b s) (h.next P c) (q.next P h c)
      refine ⟨s', a1, a2, ?_, ?_, a5⟩
      · rcases a3 with a | a
        · exact .inl a
        · refine .inr ?_
          rw [a]
          show (s.1 ++ [_]).length + k = _
          rw [List.length_append, List.length_singleton]
          omega
      · have h1 : (rdN n T b s).2.2.1 = s.2.2.1 + ((s.2.2.2.length : Int) + b - 1) / b := rfl
        have h2 := div_bound (l := (s.2.2.2.length : Int)) P.b0 (by omega)
        omega
    · rw [if_neg c]
      exact ⟨s, h, q, .inl (by simpa using c), Int.le_refl _, rfl⟩
theorem whl_later {n b most sl sl' : Int} {T : List (Tp Int)} (P : RdP n T b most) (hs : sl ≤ sl') : ∀ (k : Nat) (s : RS), RJ n b most T s → RK n b s → (whl (rdC most sl') (rdB n T b) rdK k s).b ≤ (whl (rdC most sl) (rdB n T b) rdK k s).b
  | 0, s, h, q => Int.le_refl _
  | k + 1, s, h, q => by
    by_cases c : rdC most sl' s = true
    · have c2 : rdC most sl s = true := by
        unfold rdC at c ⊢
        simp only [Bool.and_eq_true, Bool.or_eq_true, decide_eq_true_eq] at c ⊢
        refine ⟨c.1, c.2.1, ?_⟩
        rcases c.2.2 with z | z
        · exact .inl z
        · exact .inr (by omega)
      rw [whl, whl, if_pos c, if_pos c2]
      exact whl_later P hs k (rdN n T b s) (h.next P c) (q.next P h c)
    · obtain ⟨s', _, _, _, a4, a5⟩ := whl_RK (sl := sl) P (k + 1) s h q
      rw [a5]
      rw [whl, if_neg c]
      exact a4
structure RdLaw (n b s most : Int) (T : List (Tp Int)) (r : RR) : Prop where
  ok : RoundsOk n b most T r
  nd : (cpsOf b r.a).Nodup
  cnt : ∀ t, cntA (cpsOf b r.a) t ≤ b
  sh : ∀ c ∈ cpsOf b r.a, 0 ≤ c.2 ∧ c.2 < n
  few : ∀ x ∈ r.a, x.2.l.length ≤ n.toNat
  fin : ¬ (s < (r.c.l.length : Int) ∧ (r.a.length : Int) < most)
  tb : r.b ≤ 2000 * (r.a.length : Int)
theorem rounds_law {n b s most : Int} {T : List (Tp Int)} (P : RdP n T b most) (hs : 0 ≤ s) : RdLaw n b s most T (roundsM n T b s most) := by
  obtain ⟨s', h, k, e, _, e2⟩ := whl_RK (sl := s) P most.toNat _ (RJ.start P.n0 P.m0) (RK.start P.b0)
  have hm := P.m0
  unfold roundsM
  rw [e2]
  refine ⟨⟨h.len, h.cb, h.I.t0, h.due, h.pref⟩, k.nd, k.cnt, k.sh, k.few, fun ⟨h1, h2⟩ => ?_, h.I.t1⟩
  have h1 : s < (s'.2.2.2.length : Int) := h1
  have h2 : (s'.1.length : Int) < most := h2
  rcases e with e | e
  · unfold rdC at e
    have hne : ¬ s'.2.2.2 = [] := fun z => by rw [z] at h1; simp at h1; omega
    rw [decide_eq_false hne, decide_eq_true h2, decide_eq_true h1] at e
    simp at e
  · have e : s'.1.length = 0 + most.toNat := e
    omega
theorem rounds_later {n b s s' most : Int} {T : List (Tp Int)} (P : RdP n T b most) (hs : s ≤ s') : (roundsM n T b s' most).b ≤ (roundsM n T b s most).b := by
  unfold roundsM
  exact whl_later P hs most.toNat _ (RJ.start P.n0 P.m0) (RK.start P.b0)
theorem left_perm {n stop : Int} {T : List (Tp Int)} {l l' : List (Int × Int)} (p : l.Perm l') : leftM n T (l, stop) = leftM n T (l', stop) := by
  rw [left_eq, left_eq]
  refine List.filter_congr fun x _ => ?_
  dsimp only
  have hm : ∀ y, y ∈ tks l stop x ↔ y ∈ tks l' stop x := fun y => by unfold tks; exact ((p.filter _).map _).mem_iff
  cases e : lfT T l' stop x with
  | false =>
    obtain ⟨y, h1, h2⟩ := lf_iff.mp e
    exact lf_iff.mpr ⟨y, (hm y).mpr h1, h2⟩
  | true =>
    cases e2 : lfT T l stop x with
    | true => rfl
    | false =>
      obtain ⟨y, h1, h2⟩ := lf_iff.mp e2
      rw [lf_iff.mpr ⟨y, (hm y).mp h1, h2⟩] at e
      cases e
theorem tail_cnt {b stop : Int} {cs : List (Int × Int)} (hb : ∀ c ∈ cs, c.1 < stop) (hc : ∀ t, cntA cs t ≤ b) : ∀ (d : Nat) (u : Int), u + d = stop - 1 → ((cs.filter fun c => decide (u < c.1)).length : Int) ≤ b * d
  | 0, u, e => by
    rw [List.filter_eq_nil_iff.mpr fun c h => by have := hb c h; simp; omega]
    simp
  | d + 1, u, e => by
    have ih := tail_cnt hb hc d (u + 1) (by omega)
    have h1 := hc (u + 1)
    have hs : ∀ l : List (Int × Int), ((l.filter fun c => decide (u < c.1)).length : Int) = cntA l (u + 1) + ((l.filter fun c => decide (u + 1 < c.1)).length : Int) := fun l => by
      induction l with
      | nil => rfl
      | cons c l ih =>
        have e0 : cntA (c :: l) (u + 1) = (if c.1 = u + 1 then 1 else 0) + cntA l (u + 1) := by
          unfold cntA
          rw [List.filter_cons]
          by_cases z : c.1 = u + 1
          · rw [if_pos (decide_eq_true z), if_pos z, List.length_cons]; omega
          · rw [if_neg (by simp [z]), if_neg z]; omega
        rw [e0, List.filter_cons, List.filter_cons]
        by_cases z1 : u < c.1
        · rw [if_pos (show decide (u < c.1) = true from decide_eq_true z1), List.length_cons]
          by_cases z2 : u + 1 < c.1
          · rw [if_pos (show decide (u + 1 < c.1) = true from decide_eq_true z2), if_neg (show ¬ c.1 = u + 1 by omega), List.length_cons]; omega
          · rw [if_neg (show ¬ decide (u + 1 < c.1) = true by rw [decide_eq_false z2]; decide), if_pos (show c.1 = u + 1 by omega)]; omega
        · rw [if_neg (show ¬ decide (u < c.1) = true by rw [decide_eq_false z1]; decide), if_neg (show ¬ decide (u + 1 < c.1) = true by rw [decide_eq_false (by omega)]; decide), if_neg (show ¬ c.1 = u + 1 by omega)]; omega
    have e3 : b * ((d + 1 : Nat) : Int) = b * (d : Int) + b := by rw [Int.natCast_succ, Int.mul_add, Int.mul_one]
    rw [hs, e3]
    omega
section
variable {n b s most : Int} {T : List (Tp Int)} {r : RR}
theorem RdLaw.dr (h : RdLaw n b s most T r) : DrOk b r.b (cpsOf b r.a) := ⟨h.ok.cb, fun u h1 h2 => by
  have := tail_cnt (stop := r.b) (fun c hc => (h.ok.cb c hc).2) h.cnt (r.b - 1 - u).toNat u (by omega)
  rw [show (((r.b - 1 - u).toNat : Nat) : Int) = r.b - 1 - u by omega] at this
  exact this⟩
theorem RdLaw.pw (h : RdLaw n b s most T r) : (srt2 (cpsOf b r.a)).Pairwise lt2 := by
  have h1 := srt2_sorted (cpsOf b r.a)
  have h2 : (srt2 (cpsOf b r.a)).Nodup := (srt2_perm _).symm.nodup h.nd
  exact (h1.and h2).imp fun ⟨a, b⟩ => lt2_of a b
theorem RdLaw.left (h : RdLaw n b s most T r) : leftM n T (srt2 (cpsOf b r.a), r.b) = r.c.l := by rw [left_perm (srt2_perm _), h.ok.left]
theorem RdLaw.plan (h : RdLaw n b s most T r) : isPlanM n T b (r.c.l.length : Int) (srt2 (cpsOf b r.a), r.b) = true := by
  rw [isPlan_of h.ok.t0 h.pw fun c hc => ?_]
  · rw [h.left]; exact decide_eq_true (Int.le_refl _)
  · have hm := (srt2_perm _).mem_iff.mp hc
    have h1 := h.ok.cb c hm
    have h2 := h.sh c hm
    have h3 : cntA (srt2 (cpsOf b r.a)) c.1 ≤ b := by
      have := h.cnt c.1
      unfold cntA at this ⊢
      rw [filter_perm_len (srt2_perm _)]
      exact this
    unfold gdC inT
    rw [decide_eq_true h1.1, decide_eq_true h1.2, decide_eq_true h2.1, decide_eq_true h2.2, decide_eq_true h3]
    rfl
theorem RdLaw.carried (h : RdLaw n b s most T r) (hn : 0 ≤ n) : n ≤ ((srt2 (cpsOf b r.a)).length : Int) + ((leftM n T (srt2 (cpsOf b r.a), r.b)).length : Int) := carried_ge hn
theorem RdLaw.lack (h : RdLaw n b s most T r) {t : Int} (h1 : -1 ≤ t) (h2 : t < r.b) : lackM (lastsM n T r.b) b r.b t ≤ (r.c.l.length : Int) := by
  have := drawn_left (n := n) (T := T) h.dr h1 h2
  rw [← h.ok.left] at this
  exact this
theorem RdLaw.least (h : RdLaw n b s most T r) (hb : 0 ≤ b) : (leastM n T b r.b).1 ≤ (r.c.l.length : Int) := by
  rw [← lawLeast_eq hb h.ok.t0]
  unfold lawLeastM
  refine maxL_le (by simp) fun y hy => ?_
  rcases List.mem_append.mp hy with q | q
  · rw [List.mem_singleton.mp q]; omega
  · obtain ⟨t, ht, rfl⟩ := List.mem_map.mp q
    have := mem_rng.mp ht
    exact h.lack this.1 this.2
theorem RdLaw.bars (h : RdLaw n b s most T r) {t : Int} : barsM n T b (r.c.l.length : Int) r.b t = false := by
  unfold barsM
  split
  · rename_i c
    have := h.lack c.1 c.2
    exact decide_eq_false (by omega)
  · rfl
theorem RdLaw.len (h : RdLaw n b s most T r) (hn : n ≤ 12) (hm : most ≤ 20) : (cpsOf b r.a).length ≤ 240 := by
  have h1 := cpsOf_len (b := b) (m := 12) (told := r.a) fun x hx => by have := h.few x hx; omega
  have h2 := h.ok.len
  have : r.a.length * 12 ≤ 20 * 12 := Nat.mul_le_mul_right _ (by omega)
  omega
end
end GL
namespace GB
open PySem PySem.Spec PyProof.Rows L2
structure Full (m : Nat) : Prop where
  odd : m % 2 = 1
  big : m ≤ 511
  met : ∀ i j, i ≤ m → j ≤ m → ∃ k, k ≤ m ∧ lcgI m i k = j
theorem full_small {m : Nat} (h : MaskOk m) : Full m := ⟨mask_odd h, by rcases h with e | e | e <;> omega, fun i j hi hj => lcgI_all h hi hj⟩
def orb : Nat → Nat → List Nat
  | 0, _ => []
  | n + 1, x => x :: orb n ((x * 5 + 1) % 512)
theorem lcg_sh (m x : Nat) : ∀ k, lcgI m ((x * 5 + 1) % (m + 1)) k = lcgI m x (k + 1)
  | 0 => rfl
  | k + 1 => by
    show (lcgI m ((x * 5 + 1) % (m + 1)) k * 5 + 1) % (m + 1) = (lcgI m x (k + 1) * 5 + 1) % (m + 1)
    rw [lcg_sh m x k]
theorem lcg_add (m x a : Nat) : ∀ k, lcgI m (lcgI m x a) k = lcgI m x (a + k)
  | 0 => rfl
  | k + 1 => by
    show (lcgI m (lcgI m x a) k * 5 + 1) % (m + 1) = (lcgI m x (a + k) * 5 + 1) % (m + 1)
    rw [lcg_add m x a k]
theorem orb_mem : ∀ (n x j : Nat), j ∈ orb n x → ∃ k, k < n ∧ lcgI 511 x k = j
  | 0, _, _, h => nomatch h
  | n + 1, x, j, h => by
    rcases List.mem_cons.mp h with e | h
    · exact ⟨0, Nat.succ_pos _, e.symm⟩
    · obtain ⟨k, hk, e⟩ := orb_mem n _ j h
      exact ⟨k + 1, Nat.succ_lt_succ hk, by rw [← lcg_sh]; exact e⟩
theorem orb_all : ((List.range 512).all fun j => (orb 512 0).contains j) = true := by decide +kernel
theorem orb_round : (orb 513 0)[512]? = some 0 := by decide +kernel
theorem orb_get : ∀ (n x k : Nat), k < n → (orb n x)[k]? = some (lcgI 511 x k)
  | 0, _, _, h => absurd h (Nat.not_lt_zero _)
  | n + 1, x, 0, _ => rfl
  | n + 1, x, k + 1, h => by
    show (orb n ((x * 5 + 1) % 512))[k]? = _
    rw [orb_get n _ k (Nat.lt_of_succ_lt_succ h)]
    exact congrArg some (lcg_sh 511 x k)
theorem full_511 : Full 511 := by
  have all : ∀ j, j ≤ 511 → ∃ k, k < 512 ∧ lcgI 511 0 k = j := fun j hj => by
    have h := List.all_eq_true.mp orb_all j (List.mem_range.mpr (by omega))
    exact orb_mem 512 0 j (by simpa using h)
  have back : lcgI 511 0 512 = 0 := by
    have h := orb_get 513 0 512 (by decide)
    rw [orb_round] at h
    exact (Option.some.inj h).symm
  refine ⟨rfl, Nat.le_refl _, fun i j hi hj => ?_⟩
  obtain ⟨a, ha, ea⟩ := all i hi
  obtain ⟨b, hb, eb⟩ := all j hj
  rw [← ea]
  by_cases c : a ≤ b
  · exact ⟨b - a, by omega, by rw [lcg_add, show a + (b - a) = b by omega]; exact eb⟩
  · refine ⟨512 - a + b, by omega, ?_⟩
    rw [lcg_add, show a + (512 - a + b) = 512 + b by omega, ← lcg_add, back]
    exact eb
section
variable {m : Nat}
theorem Full.run (F : Full m) (h : Int) {j : Nat} (hj : j ≤ m) : ∃ n, n ≤ m + 12 ∧ runI m (SetTable.bits h) n = j := by
  obtain ⟨k, hk, e⟩ := F.met _ _ (runI_le m (SetTable.bits h) 12) hj
  exact ⟨12 + k, by omega, (runI_tail (bits_lt h) k).trans e⟩
theorem Full.reach (F : Full m) (h : Int) {j : Nat} (hj : j ≤ m) : ∃ k, k < 10 * SetTable.turns m ∧ way m h k = j := by
  obtain ⟨n, hn, e⟩ := F.run h hj
  obtain ⟨k, hk, e2⟩ := run_nth m (SetTable.bits h) n
  exact ⟨k, by unfold SetTable.turns; omega, (congrArg SetTable.Probe.j e2).trans e⟩
theorem way_in (m : Nat) (h : Int) (k : Nat) : way m h k ≤ m := by
  have hi : SetTable.bits h % (m + 1) ≤ m := Nat.le_of_lt_succ (Nat.mod_lt _ (Nat.succ_pos _))
  have r := runEnd_bd hi
  have z := nth_in k (runAt m (SetTable.bits h % (m + 1)) (SetTable.bits h)) (m := m) (by unfold runAt; dsimp only; omega)
  exact Nat.le_trans (Nat.le_add_right _ _) z
end
structure Tb (t : SetTable) (n : Nat) : Prop where
  ris : Ris t.place.toList
  dm : t.dummies = #[]
  sz : t.place.toList.length = n
  fl : Full t.mask
  bd : ∀ x ∈ t.place.toList, x ≤ t.mask
section
variable {t : SetTable} {n : Nat}
theorem Tb.gap (T : Tb t n) (hn : n ≤ t.mask) (h : Int) : ∃ K, K < 10 * SetTable.turns t.mask ∧ way t.mask h K ∉ t.place.toList ∧ ∀ k, k < K → way t.mask h k ∈ t.place.toList := by
  obtain ⟨j, hj, hnj⟩ := st_missing t.place.toList (t.mask + 1) (by rw [T.sz]; omega)
  obtain ⟨k, hk, e⟩ := T.fl.reach h (Nat.le_of_lt_succ hj)
  obtain ⟨K, h1, h2, h3⟩ := st_least (p := fun k => way t.mask h k ∉ t.place.toList) k (by show way t.mask h k ∉ t.place.toList; rw [e]; exact hnj)
  exact ⟨K, by omega, h2, fun k' hk' => Classical.byContradiction fun c => h3 k' hk' c⟩
theorem Tb.put (T : Tb t n) {j : Nat} (hj : j ∉ t.place.toList) (hm : j ≤ t.mask) : Tb (t.put j).1 (n + 1) ∧ SetTable.below t.place j ≤ n ∧ (t.put j).1.fill = n + 1 := by
  obtain ⟨c1, _, _⟩ := below_cut T.ris j
  have hl : SetTable.below t.place j ≤ t.place.toList.length := by rw [Array.length_toList]; exact c1
  have hp := put_place t j
  have hlen : (t.put j).1.place.toList.length = n + 1 := by rw [hp, len_ins _ hl, T.sz]
  have hno : t.place[SetTable.below t.place j]? ≠ some j := fun e => hj (List.mem_of_getElem? (by rw [Array.getElem?_toList]; exact e))
  refine ⟨⟨ris_insert T.ris hno, put_dm T.dm j, hlen, T.fl, fun x hx => ?_⟩, by rw [← T.sz]; exact hl, ?_⟩
  · rw [hp] at hx
    rcases mem_ins.1 hx with e | e
    · rw [e]; exact hm
    · exact T.bd x e
  · unfold SetTable.fill
    rw [put_dm T.dm j, ← Array.length_toList, hlen]
    rfl
end
structure Sits (m n : Nat) (ow : Array (Option Nat)) : Prop where
  sz : ow.size = m + 1
  ex : ∀ k, k < n → ∃ j, j ≤ m ∧ oAt ow j = some k
  few : ∃ ps : List Nat, ps.length = n ∧ ∀ j, j ≤ m → oAt ow j ≠ none → j ∈ ps
section
variable {m n : Nat} {ow : Array (Option Nat)}
theorem Sits.zero (m : Nat) : Sits m 0 (Array.replicate (m + 1) none) := ⟨Array.size_replicate, fun k hk => absurd hk (Nat.not_lt_zero _), [], rfl, fun j hj e => absurd (oAt_init hj) e⟩
theorem Full.free (F : Full m) (ow : Array (Option Nat)) (h : Int) {j : Nat} (hj : j ≤ m) (hf : oAt ow j = none) : ∃ K, SetTable.layClean.free m ow (SetTable.turns m) (SetTable.bits h % (m + 1)) (SetTable.bits h) = some (way m h K) ∧ oAt ow (way m h K) = none := by
  obtain ⟨n, hn, e⟩ := F.run h hj
  have hw : way m h (off m (SetTable.bits h % (m + 1)) (SetTable.bits h) n) = j := by
    unfold way
    rw [nth_off, itL_run]
    exact e
  obtain ⟨K, k1, k2, k3⟩ := st_least (p := fun k => oAt ow (way m h k) = none) (off m (SetTable.bits h % (m + 1)) (SetTable.bits h) n) (by show oAt ow (way m h _) = none; rw [hw]; exact hf)
  refine ⟨K, free_spec m ow (SetTable.turns m) n _ _ K (by unfold SetTable.turns; omega) k1 (fun k hk => ?_) (by rw [show oAt ow (nth m (runAt m (SetTable.bits h % (m + 1)) (SetTable.bits h)) K).j = none from k2]; rfl), k2⟩
  cases z : oAt ow (nth m (runAt m (SetTable.bits h % (m + 1)) (SetTable.bits h)) k).j with
  | none => exact absurd z (k3 k hk)
  | some _ => rfl
theorem Sits.next (F : Full m) (W : Sits m n ow) (hn : n ≤ m) (h : Int) : ∃ ow', stepF m (some (ow, n)) h = some (ow', n + 1) ∧ Sits m (n + 1) ow' := by
  obtain ⟨ps, hp, hin⟩ := W.few
  obtain ⟨j0, h0, hj0⟩ := st_missing ps (m + 1) (by omega)
  have hf : oAt ow j0 = none := Classical.byContradiction fun c => hj0 (hin j0 (Nat.le_of_lt_succ h0) c)
  obtain ⟨K, e, hK⟩ := F.free ow h (Nat.le_of_lt_succ h0) hf
  have hb := way_in m h K
  have hs : way m h K < ow.size := by rw [W.sz]; omega
  have self := oAt_set_self (some n) hs
  refine ⟨_, stepF_some e, by rw [Array.size_setIfInBounds]; exact W.sz, fun k hk => ?_, way m h K :: ps, by rw [List.length_cons, hp], fun j hj hne => ?_⟩
  · by_cases c : k = n
    · rw [c]; exact ⟨_, hb, self⟩
    · obtain ⟨j, hj, ej⟩ := W.ex k (by omega)
      refine ⟨j, hj, ?_⟩
      rw [oAt_set_ne _ fun z => by rw [z, hK] at ej; cases ej]
      exact ej
  · by_cases c : j = way m h K
    · rw [c]; exact List.mem_cons_self
    · rw [oAt_set_ne _ c] at hne
      exact List.mem_cons_of_mem _ (hin j hj hne)
theorem Sits.all (F : Full m) : ∀ (hs : List Int) (n : Nat) (ow : Array (Option Nat)), Sits m n ow → n + hs.length ≤ m → ∃ ow', hs.foldl (stepF m) (some (ow, n)) = some (ow', n + hs.length) ∧ Sits m (n + hs.length) ow'
  | [], n, ow, W, _ => ⟨ow, rfl, W⟩
  | h :: hs, n, ow, W, hl => by
    rw [List.length_cons] at hl
    obtain ⟨ow1, e1, W1⟩ := W.next F (by omega) h
    obtain ⟨ow2, e2, W2⟩ := Sits.all F hs (n + 1) ow1 W1 (by omega)
    have ea : n + 1 + hs.length = n + (h :: hs).length := by rw [List.length_cons]; omega
    rw [ea] at e2 W2
    exact ⟨ow2, by rw [List.foldl_cons, e1]; exact e2, W2⟩
theorem relay_tb (t : SetTable) {hs : Array Int} {wanted M : Nat} (hw : SetTable.sizeAbove wanted - 1 = M) (F : Full M) (hn : hs.size ≤ M) :
    ∃ t' order, t.relaid hs wanted = some (t', order) ∧ order.toList.Perm (List.range hs.size) ∧ Tb t' hs.size ∧ t'.mask = M ∧ t'.led = t.led ∧ t'.plain = t.plain := by
  obtain ⟨ow, e, W⟩ := Sits.all F hs.toList 0 _ (Sits.zero M) (by rw [Array.length_toList]; omega)
  rw [Nat.zero_add, Array.length_toList] at e W
  have hr : t.relaid hs wanted = some (tabOf t M ow, ((liveOf M ow).map (·.2)).toArray) := by
    rw [relaid_eq, hw, layClean_eq, e]
    rfl
  obtain ⟨r1, r2⟩ := ris_live (fun j => ow.getD j none) (List.range (M + 1)) (by unfold Ris; exact List.pairwise_lt_range)
  have r1 : Ris ((liveOf M ow).map (·.1)) := r1
  have r2 : ∀ x ∈ (liveOf M ow).map (·.1), x ∈ List.range (M + 1) := r2
  have hall : ∀ k, k < hs.size → k ∈ (liveOf M ow).map (·.2) := fun k hk => by
    obtain ⟨j, b1, b2⟩ := W.ex k hk
    exact List.mem_map.mpr ⟨(j, k), (mem_live W.sz).2 ⟨b1, b2⟩, rfl⟩
  have hlen : (liveOf M ow).length = hs.size := by
    obtain ⟨ps, p1, p2⟩ := W.few
    have u := nat_nodup_len ((liveOf M ow).map (·.1)) ps (List.Pairwise.imp (fun {a b} (h : a < b) => Nat.ne_of_lt h) (show List.Pairwise (· < ·) ((liveOf M ow).map (·.1)) from r1)) fun x hx => by
      obtain ⟨⟨y, k⟩, hq, rfl⟩ := List.mem_map.mp hx
      obtain ⟨b1, b2⟩ := (mem_live W.sz).1 hq
      exact p2 y b1 (by rw [b2]; exact fun z => nomatch z)
    have v := nat_nodup_len (List.range hs.size) ((liveOf M ow).map (·.2)) List.nodup_range fun k hk => hall k (List.mem_range.mp hk)
    rw [List.length_map] at u v
    rw [List.length_range] at v
    omega
  refine ⟨_, _, hr, perm_range _ _ ?_ hall, ⟨r1, rfl, ?_, F, fun x hx => Nat.le_of_lt_succ (List.mem_range.mp (r2 x hx))⟩, rfl, rfl, rfl⟩
  · show ((liveOf M ow).map (·.2)).length = _
    rw [List.length_map, hlen]
  · show ((liveOf M ow).map (·.1)).length = _
    rw [List.length_map, hlen]
end
theorem size_5 : SetTable.sizeAbove (SetTable.grown 5) = 32 := by decide +kernel
theorem size_19 : SetTable.sizeAbove (SetTable.grown 19) = 128 := by decide +kernel
theorem size_77 : SetTable.sizeAbove (SetTable.grown 77) = 512 := by decide +kernel
end GB
set_option maxHeartbeats 4000000
namespace GB
open PySem PySem.Spec PyProof.Rows L2
section
variable {P : Program} {w : World} {A : Around} {E : Value → Shared → Prop} {s : Shared} {a : Addr} {L : List (Addr × List Int)} {es : Array (Int × Value)} {ep : Nat} {t : SetTable}
def Msk (m : Nat) : Prop := m = 7 ∨ m = 31 ∨ m = 127 ∨ m = 511
structure Big (P : Program) (w : World) (h : Heap) (a : Addr) (L : List (Addr × List Int)) (es : Array (Int × Value)) (ep : Nat) (t : SetTable) : Prop where
  ob : ∃ o, h.get? a = some o ∧ o.ExactSet ∧ o.data = .set es ep t
  rows : es.toList = rowsOf P w L
  tab : Tb t L.length
  nd : (L.map (·.2)).Nodup
  tup : ∀ p ∈ L, IsT P w h p.2 p.1
  plain : t.plain = true
  led : w.params.followText "set-order" = true ∨ t.led = true
  room : L.length * 5 < t.mask * 3
  msk : Msk t.mask
theorem rows_len (h : es.toList = rowsOf P w L) : es.size = L.length := by
  rw [← Array.length_toList, h]
  exact List.length_map _
theorem Big.fits (R : Big P w s.heap a L es ep t) : t.fits es.size = true := by
  have h1 := R.tab.sz
  rw [Array.length_toList] at h1
  have h2 := R.room
  unfold SetTable.fits SetTable.fill
  rw [R.tab.dm, rows_len R.rows, h1]
  simp
  omega
theorem Big.at_ (R : Big P w s.heap a L es ep t) {i : Nat} {p : Addr × List Int} (h : L[i]? = some p) : es[i]? = some (thash P w p.2, Value.ref p.1) := by
  rw [← Array.getElem?_toList, R.rows]
  show (L.map _)[i]? = _
  rw [List.getElem?_map, h]
  rfl
theorem Big.whole (R : Big P w s.heap a L es ep t) : ¬ t.gaveWay = true := by
  unfold SetTable.gaveWay
  rw [R.tab.fl.odd]
  decide
theorem nth_dm (m : Nat) : ∀ (n : Nat) (p : SetTable.Probe), p.dummy = none → (nth m p n).dummy = none
  | 0, _, h => h
  | n + 1, p, h => nth_dm m n (adv m p) (by unfold adv; split <;> exact h)
theorem Big.look (R : Big P w s.heap a L es ep t) {x : Addr} {k : List Int} (hx : IsT P w s.heap k x) (hno : k ∉ L.map (·.2)) (hu : A.units < cLine) {K : Nat} (hKf : K < 10 * SetTable.turns t.mask)
    (hK : way t.mask (thash P w k) K ∉ t.place.toList) (hKb : ∀ c, c < K → way t.mask (thash P w k) c ∈ t.place.toList) {Q : SetFound → Shared → Prop} (hQ : Q (.free (way t.mask (thash P w k) K) false) s) :
    ∀ (f c : Nat) (st : Option SetTable.Probe), st.getD (t.probeStart (thash P w k)) = nth t.mask (t.probeStart (thash P w k)) c → c + f > K → c ≤ K → wpAny (model P w) A (setSearchFrom a (.ref x) (thash P w k) true f st) Q E s := by
  obtain ⟨o, ho, hex, hd⟩ := R.ob
  generalize hh : thash P w k = h at hK hKb hQ
  intro f
  induction f with
  | zero => intro c st _ h1 h2; exact absurd h1 (by omega)
  | succ f ih =>
    intro c st hst h1 h2
    rw [setSearchFrom_succ]
    refine wpAny_bind (wpAny_setState_of ho hd R.fits ?_)
    dsimp only
    refine wp_if_neg R.whole ?_
    try refine wpAny_bind (wpAny_pure ?_)
    have eq : ∀ q, nth t.mask (nth t.mask (t.probeStart h) c) q = nth t.mask (t.probeStart h) (c + q) := fun q => (nth_add t.mask c _ q).symm
    have ej : ∀ q, (nth t.mask (nth t.mask (t.probeStart h) c) q).j = way t.mask h (c + q) := fun q => congrArg SetTable.Probe.j (eq q)
    rw [hst]
    rcases go_spec t R.tab.ris R.tab.dm (fun i => (es[i]?.map (·.1)).getD 0) h (10 * SetTable.turns t.mask) (K - c) _ (nth_dm t.mask c (t.probeStart h) rfl) (by omega) (fun q hq => by rw [ej]; exact hKb _ (by omega)) (by rw [ej, show c + (K - c) = K by omega]; exact hK) with ⟨q, i, hq, hi, _, _, hp⟩ | ⟨_, hp⟩
    · have hp : t.probe (fun i => (es[i]?.map (·.1)).getD 0) h (nth t.mask (t.probeStart h) c) = _ := hp
      rw [hp]
      dsimp only
      have hil : i < L.length := by rw [← R.tab.sz]; exact (List.getElem?_eq_some_iff.mp hi).1
      have hen := R.at_ (List.getElem?_eq_getElem hil)
      have hmem : L[i] ∈ L := List.getElem_mem hil
      have hne : L[i].2 ≠ k := fun e => hno (List.mem_map.mpr ⟨_, hmem, e⟩)
      have hsl := slot_live R.tab.ris hi
      have rest : wpAny (model P w) A (searchRest a (.ref x) h true f es t (nth t.mask (nth t.mask (t.probeStart h) c) q).j i (nth t.mask (nth t.mask (t.probeStart h) c) (q + 1))) Q E s := by
        unfold searchRest
        rw [hen]
        dsimp only
        refine wpAny_bind (wpAny_holding (wpAny_eqBool_tuple hu (R.tup _ hmem) hx ?_))
        refine wpAny_bind (wpAny_setState_of ho hd R.fits ?_)
        dsimp only
        refine wp_if_neg (by simp [hne]) ?_
        try refine wpAny_bind (wpAny_pure ?_)
        rw [sameMem]
        dsimp only
        simp only [if_true, hsl, hen]
        refine wpAny_bind (wpAny_isSame_ref_self (wpAny_bind (wpAny_pure ?_)))
        simp only [if_true]
        refine wp_if_neg (by simp [hne]) ?_
        refine ih (c + (q + 1)) _ (by rw [eq]; rfl) (by omega) (by omega)
      by_cases hl : t.led = true
      · refine wp_if_neg (by simp [hl]) ?_
        try refine wpAny_bind (wpAny_pure ?_)
        exact rest
      · refine wp_if_pos (by simp [hl]) ?_
        refine wpAny_bind (seen_tup hx (fun y hy => ?_) ?_)
        · obtain ⟨e, he, ee⟩ := List.mem_map.mp hy
          have he1 : e ∈ es ∧ e.1 = h := by simpa using he
          have he2 : e ∈ es.toList := by simpa using he1.1
          rw [R.rows] at he2
          obtain ⟨p2, hp2, e2⟩ := List.mem_map.mp he2
          exact ⟨p2.2, p2.1, by rw [← ee, ← e2], R.tup p2 hp2⟩
        · refine wp_if_neg (by decide) ?_
          try refine wpAny_bind (wpAny_pure ?_)
          exact rest
    · have hp : t.probe (fun i => (es[i]?.map (·.1)).getD 0) h (nth t.mask (t.probeStart h) c) = _ := hp
      rw [hp, ej, show c + (K - c) = K by omega]
      exact wpAny_pure hQ
theorem relay_big {o : Obj} (ho : s.heap.get? a = some o) (hex : o.ExactSet) (hd : o.data = .set es ep t) (hrows : es.toList = rowsOf P w L) (T : Tb t L.length) (hfl : L.length ≤ t.mask)
    (nd : (L.map (·.2)).Nodup) (tup : ∀ p ∈ L, IsT P w s.heap p.2 p.1) (pl : t.plain = true) (ld : w.params.followText "set-order" = true ∨ t.led = true) {wanted M : Nat}
    (hw : SetTable.sizeAbove wanted = M + 1) (F : Full M) (hmk : Msk M) (hn : L.length * 5 < M * 3) {Q : Unit → Shared → Prop}
    (hQ : ∀ h' L' es' ep' t', Heap.SameBut a s.heap h' → Big P w h' a L' es' ep' t' → L'.Perm L → Q () { s with heap := h' }) : wpAny (model P w) A (setRelay a wanted) Q E s := by
  have hsl := rows_len hrows
  have hM := F.big
  have hfits : t.fits es.size = true := by
    have h1 := T.sz
    rw [Array.length_toList] at h1
    unfold SetTable.fits SetTable.fill
    rw [T.dm, hsl, h1]
    simp
    omega
  obtain ⟨t', order, e, hp, T', em, el, ep'⟩ := relay_tb t (hs := es.map (·.1)) (wanted := wanted) (by rw [hw]; rfl) F (by rw [Array.size_map, hsl]; omega)
  rw [Array.size_map, hsl] at hp T'
  obtain ⟨L2, r1, r2, _⟩ := order_rows L es order hrows hp
  have hs2 : (order.filterMap (es[·]?)).size = es.size := by rw [rows_len r1, r2.length_eq, hsl]
  rw [setRelay_eq]
  refine wpAny_bind (wpAny_setState_of ho hd hfits ?_)
  dsimp only
  refine wp_if_neg (by rw [hw, sizeLine_eq]; omega) ?_
  try refine wpAny_bind (wpAny_pure ?_)
  rw [e]
  dsimp only
  refine wpAny_bind ?_
  refine wp_if_neg (by rw [hs2]; simp) ?_
  try refine wpAny_bind (wpAny_pure ?_)
  refine wpAny_pure ?_
  dsimp only
  refine wpAny_storeSet_of ho hd ?_ (by rw [hs2, hsl, sizeLine_eq]; omega)
  have sb : Heap.SameBut a s.heap (s.heap.update a (Obj.putSet (order.filterMap (es[·]?)) t')) := Heap.SameBut.update ..
  refine hQ _ L2 _ (ep + 1) t' sb ⟨⟨_, store_at ho hd, ⟨hex.1, hex.2.1, hex.2.2⟩, rfl⟩, r1, by rw [r2.length_eq]; exact T', (r2.map (·.2)).nodup_iff.mpr nd, fun p hpm => isT_same (tup p (r2.mem_iff.mp hpm)) ho hd sb, by rw [ep']; exact pl, by rw [el]; exact ld, ?_, by rw [em]; exact hmk⟩ r2
  rw [r2.length_eq, em]
  exact hn
theorem Big.add (R : Big P w s.heap a L es ep t) {x : Addr} {k : List Int} (hx : IsT P w s.heap k x) (hno : k ∉ L.map (·.2)) (hu : A.units < cLine) (hfew : L.length < 300) {Q : Bool → Shared → Prop}
    (hQ : ∀ b h' L' es' ep' t', Heap.SameBut a s.heap h' → Big P w h' a L' es' ep' t' → L'.Perm ((x, k) :: L) → Q b { s with heap := h' }) :
    wpAny (model P w) A (setAddHashed a (.ref x) (thash P w k)) Q E s := by
  obtain ⟨o, ho, hex, hd⟩ := R.ob
  have hsl := rows_len R.rows
  have hroom := R.room
  have hbig := R.tab.fl.big
  obtain ⟨K, hKf, hK, hKb⟩ := R.tab.gap (by omega) (thash P w k)
  unfold setAddHashed
  refine wpAny_holding ?_
  rw [show (100000 : Nat) = 99999 + 1 from rfl, setAddHashedIn_succ]
  refine wpAny_bind (wpAny_setState_of ho hd R.fits ?_)
  dsimp only
  refine wp_if_neg (by simp [byScan, Value.scannable]) ?_
  try refine wpAny_bind (wpAny_pure ?_)
  refine wpAny_bind ?_
  unfold setSearch
  refine R.look hx hno hu hKf hK hKb ?_ 100000 0 none rfl (by unfold SetTable.turns at hKf; omega) (Nat.zero_le _)
  dsimp only
  refine wpAny_bind (wpAny_setState_of ho hd R.fits ?_)
  dsimp only
  obtain ⟨q3, q2, q9⟩ := R.tab.put hK (way_in _ _ _)
  have q1 : (t.put (way t.mask (thash P w k) K)).2 = SetTable.below t.place (way t.mask (thash P w k) K) := rfl
  have q4 : (t.put (way t.mask (thash P w k) K)).1.mask = t.mask := rfl
  have q5 : (t.put (way t.mask (thash P w k) K)).1.led = t.led := rfl
  have hp1 : (t.put (way t.mask (thash P w k) K)).1.plain = true := R.plain
  generalize t.put (way t.mask (thash P w k) K) = pt at q1 q3 q4 q5 q9 hp1 ⊢
  obtain ⟨t1, p⟩ := pt
  dsimp only at q1 q3 q4 q5 q9 hp1 ⊢
  subst q1
  first
    | (refine wpAny_bind ?_; refine wp_if_pos hp1 ?_; refine hashBy_tup hx ?_)
    | refine wp_if_pos hp1 (wpAny_bind (hashBy_tup hx ?_))
  simp only [if_true]
  generalize SetTable.below t.place (way t.mask (thash P w k) K) = p at q2 ⊢
  have hin : (SetTable.insertAt es p (thash P w k, Value.ref x)).toList = rowsOf P w (L.take p ++ (x, k) :: L.drop p) := by rw [SetTable.toList_insertAt, rows_put, R.rows]
  have pm := put_perm L p (x, k)
  have hlen := pm.length_eq
  rw [List.length_cons] at hlen
  have hes := rows_len hin
  generalize SetTable.insertAt es p (thash P w k, Value.ref x) = es1 at hin hes ⊢
  generalize L.take p ++ (x, k) :: L.drop p = L1 at pm hlen hin hes
  rw [← hlen] at q3
  have nd1 : (L1.map (·.2)).Nodup := by
    refine (pm.map (·.2)).nodup_iff.mpr ?_
    rw [List.map_cons]
    exact List.nodup_cons.mpr ⟨hno, R.nd⟩
  refine wpAny_bind (wpAny_storeSet_of ho hd ?_ (by rw [hes, sizeLine_eq]; omega))
  have sb : Heap.SameBut a s.heap (s.heap.update a (Obj.putSet es1 t1)) := Heap.SameBut.update ..
  have ho1 := store_at (es' := es1) (t' := t1) ho hd
  generalize s.heap.update a (Obj.putSet es1 t1) = h1 at sb ho1 ⊢
  have tup1 : ∀ p ∈ L1, IsT P w h1 p.2 p.1 := fun p hp => by
    rcases List.mem_cons.mp (pm.mem_iff.mp hp) with e | hp
    · rw [e]; exact isT_same hx ho hd sb
    · exact isT_same (R.tup p hp) ho hd sb
  have ld1 : w.params.followText "set-order" = true ∨ t1.led = true := by rw [q5]; exact R.led
  by_cases hf : t1.tooFull = true
  · first
      | (refine wpAny_bind ?_; refine wp_if_pos (by simp [hf]) ?_)
      | (refine wp_if_pos (by simp [hf]) ?_; refine wpAny_bind ?_)
    have hfull : (L.length + 1) * 5 ≥ t.mask * 3 := by
      have h := hf
      unfold SetTable.tooFull at h
      rw [decide_eq_true_eq, q9, q4] at h
      exact h
    rw [hsl]
    have go : ∀ M, SetTable.sizeAbove (SetTable.grown (L.length + 1)) = M + 1 → Full M → Msk M → (L.length + 1) * 5 < M * 3 → wpAny (model P w) A (setRelay a (SetTable.grown (L.length + 1))) (fun _ s' => wpAny (model P w) A (pure true) Q E s') E { s with heap := h1 } := fun M h1' h2' h3' h4' => by
      refine relay_big (s := { s with heap := h1 }) ho1 ⟨hex.1, hex.2.1, hex.2.2⟩ rfl hin q3 (by rw [hlen, q4]; rcases R.msk with e | e | e | e <;> omega) nd1 tup1 hp1 ld1 h1' h2' h3' (by rw [hlen]; exact h4') ?_
      intro h2 L2 es2 ep2 t2 sb2 R2 pm2
      exact wpAny_pure (hQ true h2 L2 es2 ep2 t2 (sb.trans sb2) R2 (pm2.trans pm))
    rcases R.msk with e | e | e | e
    · rw [e] at hfull hroom
      have el : L.length = 4 := by omega
      exact go 31 (by rw [el]; exact size_5) (full_small (.inr (.inl rfl))) (.inr (.inl rfl)) (by omega)
    · rw [e] at hfull hroom
      have el : L.length = 18 := by omega
      exact go 127 (by rw [el]; exact size_19) (full_small (.inr (.inr rfl))) (.inr (.inr (.inl rfl))) (by omega)
    · rw [e] at hfull hroom
      have el : L.length = 76 := by omega
      exact go 511 (by rw [el]; exact size_77) full_511 (.inr (.inr (.inr rfl))) (by omega)
    · rw [e] at hfull
      omega
  · first
      | refine wp_if_neg (by simp [hf]) ?_
      | (refine wpAny_bind ?_; refine wp_if_neg (by simp [hf]) ?_; refine wpAny_pure ?_)
    refine wpAny_pure (hQ true h1 L1 es1 (ep + 1) t1 sb ⟨⟨_, ho1, ⟨hex.1, hex.2.1, hex.2.2⟩, rfl⟩, hin, q3, nd1, tup1, hp1, ld1, ?_, by rw [q4]; exact R.msk⟩ pm)
    have h := hf
    unfold SetTable.tooFull at h
    rw [decide_eq_true_eq, q9] at h
    omega
end
end GB
set_option maxHeartbeats 4000000
namespace GB
open PySem PySem.Spec PyProof.Rows L2
section
variable {P : Program} {w : World} {A : Around} {E : Value → Shared → Prop} {s : Shared} {a : Addr} {L : List (Addr × List Int)} {es : Array (Int × Value)} {ep : Nat} {t : SetTable}
theorem Big.stay {h h' : Heap} (R : Big P w h a L es ep t) (ha : ∀ o, h.get? a = some o → h'.get? a = some o) (ht : ∀ p ∈ L, IsT P w h' p.2 p.1) : Big P w h' a L es ep t := by
  obtain ⟨o, ho, r⟩ := R.ob
  exact ⟨⟨o, ha o ho, r⟩, R.rows, R.tab, R.nd, ht, R.plain, R.led, R.room, R.msk⟩
theorem big_new {h : Heap} (ho : h.get? a = some { cls := .type "set", dict := none, data := .set #[] 0 (.fresh 0 0 (!w.params.followText "set-order")) }) : Big P w h a [] #[] 0 (.fresh 0 0 (!w.params.followText "set-order")) :=
  ⟨⟨_, ho, ⟨rfl, rfl, rfl⟩, rfl⟩, rfl, ⟨List.Pairwise.nil, rfl, rfl, full_small (.inl rfl), fun x hx => nomatch hx⟩, List.nodup_nil, (fun p hp => nomatch hp), rfl, by
    show _ ∨ (!w.params.followText "set-order") = true
    cases w.params.followText "set-order"
    · exact .inr rfl
    · exact .inl rfl, by show 0 * 5 < 7 * 3; decide, .inl rfl⟩
theorem update_big {I : Addr} {fp wr : List Addr} {G : Array GenState → Array GenState → Prop} {n : Nat} {Pv : Nat → Value → Prop} {St : Nat → Shared → Prop} {R : Result → Shared → Prop}
    (W : WalksS P w A.in1 I fp wr G n Pv St) (S : Addr) (hSf : S ∉ fp) (ks : List (Addr × List Int)) (hn : n = ks.length) (hfew : ks.length ≤ 300) (hnd : (ks.map (·.2)).Nodup) (hval : ∀ i v, Pv i v → ∃ p, ks[i]? = some p ∧ v = .ref p.1)
    (h0 : Heap) (hk : ∀ p ∈ ks, IsT P w h0 p.2 p.1) (hS0 : h0.get? S = none) (hw0 : ∀ b ∈ wr, h0.get? b = none) (hu : A.in1.units < cLine) :
    ∀ (d i : Nat) (s : Shared), i + d = n → St i s → (∀ b o, h0.get? b = some o → s.heap.get? b = some o) → (∃ L es ep t, Big P w s.heap S L es ep t ∧ L.Perm (ks.take i)) →
      (∀ s' L es ep t, Moved (S :: wr) G s s' → Big P w s'.heap S L es ep t → L.Perm ks → (∀ b o, h0.get? b = some o → s'.heap.get? b = some o) → R (.ok (.ret .none)) s') →
      codeAny (model P w) A (.builtin "set.update.loop" ⟨[.ref S, .ref I], []⟩) R s := by
  have hSw : S ∉ wr := fun h => hSf (W.sub _ h)
  have stays : ∀ {s s' : Shared}, Moved wr G s s' → (∀ b o, h0.get? b = some o → s.heap.get? b = some o) → ∀ b o, h0.get? b = some o → s'.heap.get? b = some o := fun hm hkp b o e =>
    hm.heap b o (fun hb => by rw [hw0 b hb] at e; cases e) (hkp b o e)
  intro d
  induction d with
  | zero =>
    intro i s hi hst hkp ⟨L, es, ep, t, hS, pm⟩ fin
    have hin : i = n := by omega
    subst hin
    rw [hn, List.take_length] at pm
    refine codeAny_builtin F.entry_set_update_loop ?_
    rw [Around.under_plainId F.plain_set_update_loop _]
    show wpAny _ A.in1 (pyNext (.ref I) >>= _) _ _ s
    refine wpAny_bind (W.done s _ _ hst fun s' hm => ?_)
    have hkp' := stays hm hkp
    exact wpAny_pure (fin s' L es ep t (hm.mono fun b hb => List.mem_cons_of_mem _ hb) (hS.stay (fun o e => hm.heap S o hSw e) fun p hp => isT_keep (hk p (pm.mem_iff.mp hp)) hkp') pm hkp')
  | succ d ih =>
    intro i s hi hst hkp ⟨L, es, ep, t, hS, pm⟩ fin
    have hlt : i < ks.length := by omega
    refine codeAny_builtin F.entry_set_update_loop ?_
    rw [Around.under_plainId F.plain_set_update_loop _]
    show wpAny _ A.in1 (pyNext (.ref I) >>= _) _ _ s
    refine wpAny_bind (W.item i s _ _ (by omega) hst fun v s' hP hst' hm => ?_)
    obtain ⟨p, hp, rfl⟩ := hval i v hP
    have hkp' := stays hm hkp
    have htk : ks.take (i + 1) = ks.take i ++ [p] := take_next hp
    have hS' : Big P w s'.heap S L es ep t := hS.stay (fun o e => hm.heap S o hSw e) fun q hq => isT_keep (hk q (List.mem_of_mem_take (pm.mem_iff.mp hq))) hkp'
    have hx : IsT P w s'.heap p.2 p.1 := isT_keep (hk p (List.mem_of_getElem? hp)) hkp'
    have hno : p.2 ∉ L.map (·.2) := by
      rw [(pm.map (·.2)).mem_iff]
      have h1 : ((ks.take (i + 1)).map (·.2)).Nodup := by rw [List.map_take]; exact hnd.sublist (List.take_sublist _ _)
      rw [htk, List.map_append] at h1
      exact fun h => (List.nodup_append.mp h1).2.2 _ h _ (List.mem_singleton.mpr rfl) rfl
    have hll : L.length ≤ i := by rw [pm.length_eq, List.length_take]; omega
    show wpAny _ A.in1 (holding [Value.ref p.1] (setAdd S (.ref p.1)) >>= _) _ _ s'
    refine wpAny_bind (wpAny_holding ?_)
    unfold setAdd
    refine wpAny_holding ?_
    refine wpAny_bind (wpAny_pyHash_tuple hu hx ?_)
    refine Big.add (s := { s' with toks := s'.toks + (p.2.length + 1) }) hS' hx hno hu (by omega) fun b h' L' es' ep' t' hsb hS2 pm2 => ?_
    have hkp2 : ∀ b o, h0.get? b = some o → h'.get? b = some o := fun b o e => (hsb.2 b (fun z => by rw [z, hS0] at e; cases e)).trans (hkp' b o e)
    refine wpAny_pure ⟨plainId_quiet F.plain_set_update_loop _, ih (i + 1) _ (by omega) (W.frame _ s' _ _ hst' (Nat.le_add_right _ _) fun b hb o e => ?_) hkp2 ⟨L', es', ep', t', hS2, ?_⟩ fun s'' L2 es2 ep2 t2 hm'' hS'' g'' hkp'' => ?_⟩
    · rw [hsb.2 b (fun h : b = S => hSf (by rw [← h]; exact hb))]; exact e
    · rw [htk]
      exact pm2.trans ((pm.cons p).trans (List.perm_append_singleton p _).symm)
    · refine fin s'' L2 es2 ep2 t2 (Moved.trans W.gtrans ((hm.mono fun b hb => List.mem_cons_of_mem _ hb).then_heap (Nat.le_add_right _ _) fun b o hb e => ?_) hm'') hS'' g'' hkp''
      rw [hsb.2 b (fun h : b = S => hb (by rw [h]; exact List.mem_cons_self))]; exact e
set_option maxHeartbeats 8000000 in
theorem call_set_big {l : Addr} {items : Array Value} (ks : List (Addr × List Int)) {Q : Value → Shared → Prop} (hh : A.handled = none) (hl : s.heap.IsList l items) (hit : items.toList = ks.map fun p => Value.ref p.1)
    (hk : ∀ p ∈ ks, IsT P w s.heap p.2 p.1) (hfew : ks.length ≤ 300) (hnd : (ks.map (·.2)).Nodup) (hu : A.units + 3 < cLine)
    (h : ∀ (h' : Heap) (tk : Nat) L es ep t, Big P w h' s.heap.objs.size L es ep t → L.Perm ks → (∀ b o, s.heap.get? b = some o → h'.get? b = some o) → Q (.ref s.heap.objs.size) { s with heap := h', toks := tk }) :
    wpAny (model P w) A (call (.type "set") [.ref l]) Q E s := by
  have hisz : items.size = ks.length := by rw [← Array.length_toList, hit]; exact List.length_map _
  obtain ⟨c, tl, hmro⟩ := F.called_set.mro
  have hmade := F.called_set.made
  have hsub := F.called_set.sub
  refine wpAny_call (codeAny_of_tree ?_)
  show wpAny _ _ (callAny (.type "set") _) _ _ _
  refine wpAny_pure ⟨Code.quiet_builtin _ (by decide +kernel), codeAny_builtin F.entry_type_call ?_⟩
  rw [Around.under_plain (weight_type_call_type "set" [.ref l] []) rfl]
  have h1 := F.called_set.notType
  have h2 := F.called_set.canCreate
  have hct := F.typeCall_set_1 (.ref l)
  repeat (any_goals (first | assumption | wp_step))
  refine codeAny_mono (code_set_led1 (.ref l) (E := E) (Q₁ := fun obj s₁ => obj = .ref s.heap.objs.size ∧ s₁ = { s with heap := s.heap.push { cls := .type "set", dict := none, data := .set #[] 0 (.fresh 0 0 (!w.params.followText "set-order")) } }) ⟨rfl, rfl⟩) fun r s₁ hr => ?_
  cases r with
  | error e => exact hr
  | ok fl =>
    cases fl with
    | ret obj =>
      obtain ⟨rfl, rfl⟩ := hr
      have hS : (s.heap.push { cls := .type "set", dict := none, data := .set #[] 0 (.fresh 0 0 (!w.params.followText "set-order")) }).get? s.heap.objs.size = some { cls := .type "set", dict := none, data := .set #[] 0 (.fresh 0 0 (!w.params.followText "set-order")) } := Heap.get?_push_size _ rfl
      have hT : Shared.TypeIs { s with heap := s.heap.push { cls := .type "set", dict := none, data := .set #[] 0 (.fresh 0 0 (!w.params.followText "set-order")) } } (.ref s.heap.objs.size) "set" := ⟨_, hS, rfl⟩
      have hli := F.called_set.init.lookup
      have hbi := F.called_set.init.bind (.ref s.heap.objs.size)
      repeat (any_goals (first | assumption | wp_step))
      refine codeAny_mono (codeAny_call_builtin (R := wants (fun r s₂ => r = .none ∧ ∃ h' tk L es ep t, s₂ = { s with heap := h', toks := tk } ∧ Big P w h' s.heap.objs.size L es ep t ∧ L.Perm ks ∧
          (∀ b o, s.heap.get? b = some o → h'.get? b = some o)) E) F.called_set.init.plain F.entry_set_init (check_set_init_1 hT ?_)) fun r₂ s₂ hr₂ => ?_
      · obtain ⟨ol, hol, hcl, nl, hdl⟩ := hl
        obtain ⟨ocls, odict, odata, oslots⟩ := ol
        dsimp only at hcl hdl
        subst hcl hdl
        have hol' : (s.heap.push { cls := .type "set", dict := none, data := .set #[] 0 (.fresh 0 0 (!w.params.followText "set-order")) }).get? l = some { cls := .type "list", dict := odict, data := .seq items nl, slots := oslots } := Heap.get?_push_of_some _ hol
        have hsls := F.sub_list_set
        have hslf := F.sub_list_frozenset
        have hne : (Value.type "list" == Value.type "dict") = false := by decide
        have hl1 : (s.heap.push { cls := .type "set", dict := none, data := .set #[] 0 (.fresh 0 0 (!w.params.followText "set-order")) }).IsList l items := ⟨_, hol', rfl, nl, rfl⟩
        unfold Builtin.«set.__init__» noKeywords Builtin.Frozenset.updateFrom
        generalize hPI : pyIter = PI
        wp_walk
        subst hPI
        refine wpAny_pyIter_list hl1 ?_
        refine wpAny_bind (wpAny_runValue ?_)
        have hlS : l < s.heap.objs.size := Heap.lt_size hol
        have hsz : (s.heap.push { cls := .type "set", dict := none, data := .set #[] 0 (.fresh 0 0 (!w.params.followText "set-order")) }).objs.size = s.heap.objs.size + 1 := Heap.size_push ..
        have fresh : ∀ b, s.heap.objs.size ≤ b → s.heap.get? b = none := fun b hb => by
          cases q : s.heap.get? b with
          | none => rfl
          | some o => exact absurd (Nat.lt_of_lt_of_le (Heap.lt_size q) hb) (Nat.lt_irrefl _)
        refine update_big ((Walks.list (show A.in1.in1.in1.handled = none by simp [hh]) _ l (show l ≠ (s.heap.push { cls := .type "set", dict := none, data := .set #[] 0 (.fresh 0 0 (!w.params.followText "set-order")) }).objs.size by rw [hsz]; exact Nat.ne_of_lt (Nat.lt_succ_of_lt hlS)) items).toS) s.heap.objs.size
          (by rw [hsz]; simp only [List.mem_cons, List.mem_singleton, List.not_mem_nil, or_false, not_or]; exact ⟨Nat.ne_of_lt (Nat.lt_succ_self _), Nat.ne_of_gt hlS⟩) ks hisz hfew hnd (fun i v hv => ?_) s.heap hk (fresh _ (Nat.le_refl _)) (fun b hb => fresh b (by rw [List.mem_singleton.mp hb, hsz]; exact Nat.le_succ _)) hu items.size 0 _ (by omega)
          ⟨⟨_, Heap.get?_push_size _ rfl, rfl, rfl⟩, (hl1.push _)⟩ (fun b o e => Heap.get?_push_of_some _ (Heap.get?_push_of_some _ e)) ⟨[], #[], 0, _, big_new (Heap.get?_push_of_some _ hS), by rw [List.take_zero]⟩ fun s' L es ep t hm hS' pm hkp => ?_
        · have q : items.toList[i]? = some v := by rw [Array.getElem?_toList]; exact hv
          rw [hit, List.getElem?_map] at q
          obtain ⟨p, hp, e⟩ := Option.map_eq_some_iff.mp q
          exact ⟨p, hp, e.symm⟩
        · obtain ⟨h', g2, d', tk', os'⟩ := s'
          have eg : g2 = s.gens := hm.gens
          have ed : d' = s.drawn := hm.drawn
          have eo : os' = s.os := hm.os
          subst eg ed eo
          show wpAny _ _ _ _ _ _
          refine wpAny_pure ?_
          show wpAny _ _ (ret Value.none) _ _ _
          exact wpAny_pure ⟨rfl, h', tk', L, es, ep, t, rfl, hS', pm, hkp⟩
      · cases r₂ with
        | error e => exact hr₂
        | ok fl₂ =>
          cases fl₂ with
          | ret r =>
            obtain ⟨rfl, h', tk, L, es, ep, t, rfl, hS', pm, hk'⟩ := hr₂
            repeat (any_goals (first | assumption | wp_step))
            exact h _ _ _ _ _ _ hS' pm hk'
          | _ => exact hr₂.elim
    | _ => exact hr.elim
theorem sorted_big {Q : Value → Shared → Prop} (R : Big P w s.heap a L es ep t) (hh : A.handled = none) (hfew : L.length ≤ 300) (h2 : ∀ p ∈ L, ∃ m n, p.2 = [m, n])
    (hQ : ∀ s' p (out : Array Value) (c : Nat) (M : List (Addr × List Int)), (∀ b o, s.heap.get? b = some o → s'.heap.get? b = some o) → s'.gens = s.gens → s'.os = s.os → s.heap.objs.size ≤ p →
      s'.heap.get? p = some (seqObj "list" out c) → out.toList = M.map (fun q => Value.ref q.1) → M.Perm L → M.Pairwise (fun q r => ∀ m n m' n', q.2 = [m, n] → r.2 = [m', n'] → le2 (m, n) (m', n')) → Q (.ref p) s') :
    wpAny (model P w) A (call (.builtin "sorted") [.ref a]) Q E s := by
  obtain ⟨o, ho, hex, hd⟩ := R.ob
  refine Calls.call_function_entry kind_sorted plain_sorted entry_sorted (args_sorted1 _) ?_
  unfold Builtin.«sorted»
  refine wpAny_bind (m := checkCount "sorted" 1 1 _) (wpAny_pure ?_)
  refine wpAny_bind (collect_set (A := A.in1) hh ⟨o, ho, hex.1, hd⟩ R.fits (by rw [rows_len R.rows]; unfold scanBound; omega) R.tab.ris R.led fun s1 vs k1 hz g1 o1 pm => ?_)
  have erow : es.toList.map (·.2) = L.map fun q => Value.ref q.1 := by rw [R.rows]; unfold rowsOf; rw [List.map_map]; rfl
  rw [erow] at pm
  have few : vs.length ≤ 300 := by rw [pm.length_eq, List.length_map]; exact hfew
  refine wpAny_bind (wpAny_newList ?_ (by rw [sizeLine_eq]; omega))
  have hob : (s1.heap.push (seqObj "list" vs.toArray 0)).get? s1.heap.objs.size = some (seqObj "list" vs.toArray 0) := Heap.get?_push_size _ rfl
  have hk : ∀ b u, s.heap.get? b = some u → (s1.heap.push (seqObj "list" vs.toArray 0)).get? b = some u := fun b u e => Heap.get?_push_of_some _ (k1 b u e)
  have ht : ∀ q ∈ L, ∀ m n, q.2 = [m, n] → Two (s1.heap.push (seqObj "list" vs.toArray 0)) (.ref q.1) m n := fun q hq m n e => by
    have z := R.tup q hq
    rw [e] at z
    exact (two_isT z).keep hk
  refine wpAny_bind (wpAny_holding (sort_two (s := { s1 with heap := s1.heap.push (seqObj "list" vs.toArray 0) }) hob (fun v hv => ?_) (by rw [sizeLine_eq]; omega) fun out a1 a2 => ?_))
  · obtain ⟨q, hq, e⟩ := List.mem_map.mp (pm.mem_iff.mp hv)
    obtain ⟨m, n, e2⟩ := h2 q hq
    rw [← e]
    exact ⟨m, n, ht q hq m n e2⟩
  obtain ⟨c, hc⟩ := sortedHeap_at (vs := vs) (out := out) hob
  have pm2 := a1.trans pm
  obtain ⟨M, eM, hM⟩ := refs_in (L := L) out.toList fun v hv => by
    obtain ⟨q, hq, e⟩ := List.mem_map.mp (pm2.mem_iff.mp hv)
    exact ⟨q, hq, e.symm⟩
  have one : ∀ q ∈ L, ∀ r ∈ L, q.1 = r.1 → q = r := fun q hq r hr e => by
    have z1 := R.tup q hq
    rw [e] at z1
    exact Prod.ext e (z1.inj (R.tup r hr))
  have nref : (L.map fun q => Value.ref q.1).Nodup := List.pairwise_map.mpr (List.Pairwise.imp_of_mem (fun {q r} hq hr ne e => by
    injection e with e
    exact ne (one q hq r hr e)) (nodup_of_map R.nd))
  have nM : M.Nodup := by
    have z := pm2.nodup_iff.mpr nref
    rw [eM] at z
    exact nodup_of_map z
  have pML : M.Perm L := (List.perm_ext_iff_of_nodup nM (nodup_of_map R.nd)).mpr fun q => ⟨hM q, fun hq => by
    have z : Value.ref q.1 ∈ out.toList := pm2.mem_iff.mpr (List.mem_map.mpr ⟨q, hq, rfl⟩)
    rw [eM] at z
    obtain ⟨r, hr, e⟩ := List.mem_map.mp z
    injection e with e
    rw [← one r (hM r hr) q hq e]
    exact hr⟩
  refine wpAny_pure ⟨_, rfl, hQ _ s1.heap.objs.size out c M (fun b u e => ?_) g1 o1 hz hc eM pML ?_⟩
  · have q := k1 b u e
    have lt := Heap.lt_size q
    show (sortedHeap (s1.heap.push (seqObj "list" vs.toArray 0)) s1.heap.objs.size vs out).get? b = some u
    rw [sortedHeap_old (Nat.ne_of_lt lt) (by rw [size_push']; exact Nat.lt_succ_of_lt lt)]
    exact Heap.get?_push_of_some _ q
  · rw [eM] at a2
    refine List.Pairwise.imp_of_mem (fun {q r} hq hr hle m n m' n' e e' => ?_) (List.pairwise_map.mp a2)
    exact hle m n m' n' (ht q (hM q hq) m n e) (ht r (hM r hr) m' n' e')
end
section
variable {X : Cx}
def tSortSetB (K : PySem.W.Frag) (ta : TE) : TE := fun σ H Q => ta σ H fun x H1 => ∃ (l : Addr) (ks : List (Addr × Int × Int)), x = V.ref l ∧ SqL K H1 l (ks.map fun p => V.ref p.1) ∧ ks.length ≤ 300 ∧ (∀ p ∈ ks, SqT K H1 p.1 [V.int p.2.1, V.int p.2.2]) ∧ (ks.map (·.2)).Nodup ∧
  ∀ (M : List (Addr × Int × Int)) (p : Addr), M.Perm ks → (M.map (·.2)).Pairwise le2 → H1 p = none → Q (.ref p) (upd H1 p (.lst (M.map fun q => V.ref q.1)))
def toK (p : Addr × Int × Int) : Addr × List Int := (p.1, [p.2.1, p.2.2])
def ofK (p : Addr × List Int) : Addr × Int × Int := (p.1, p.2.getD 0 0, p.2.getD 1 0)
theorem pe_sortSetB {a : Expr} {ta : TE} {p p2 q pos : Pos} (hc : X.calm = true) (hu : X.A.units + 64 < cLine) (hg : Gl X "sorted") (hm : X.mg "sorted" = none) (hg2 : Gl X "set") (hm2 : X.mg "set" = none) (ha : PE X a ta)
    (na : starEach [a] X.env = (false, eval a X.env) :: starEach [] X.env := by rfl) : PE X (.Call (.Name "sorted" p) [.Call (.Name "set" p2) [a] [] q] [] pos) (tSortSetB X.K ta) := by
  refine ⟨fun pins s σ H Q I h => ?_⟩
  refine Call_ (ld_blt I hg hm PyProof.Rows.boot_sorted ?_)
  refine PyProof.Rows.callWith_builtin1 (PyProof.Rows.args_cons ?_ rfl) rfl rfl
  refine Call_ (ld_blt I hg2 hm2 PyProof.Rows.boot_set ?_)
  refine PyProof.Rows.callWith_type1 (PyProof.Rows.args_cons (thn (ha.run pins s σ H _ I h) fun v s1 ⟨x, H1, I1, r1, q1⟩ => PyProof.Rows.args_nil ?_) na) na rfl
  obtain ⟨l, ks0, rfl, hq, h1, hx, hnd0, q1⟩ := q1
  cases r1
  obtain ⟨ks, hks⟩ : ∃ ks, ks = ks0.map toK := ⟨_, rfl⟩
  have back : ks.map ofK = ks0 := by rw [hks, List.map_map]; exact (List.map_congr_left fun p _ => rfl).trans (List.map_id _)
  have hk : ∀ p ∈ ks, SqT X.K H1 p.1 (p.2.map V.int) ∧ ∃ m n, p.2 = [m, n] := fun p hp => by
    rw [hks] at hp
    obtain ⟨q, hq, rfl⟩ := List.mem_map.mp hp
    exact ⟨hx q hq, _, _, rfl⟩
  have hnd : (ks.map (·.2)).Nodup := by
    rw [hks, List.map_map]
    have e : ((fun p : Addr × List Int => p.2) ∘ toK) = (fun x : Int × Int => [x.1, x.2]) ∘ fun p : Addr × Int × Int => p.2 := rfl
    rw [e, ← List.map_map]
    refine List.pairwise_map.mpr (hnd0.imp fun {a b} hne e => hne ?_)
    simp only [List.cons.injEq, and_true] at e
    exact Prod.ext e.1 e.2
  obtain ⟨its, r, pl, hz⟩ := I1.list hq
  have er : (ks0.map fun p => V.ref p.1) = ks.map fun p => V.ref p.1 := by rw [hks, List.map_map]; rfl
  rw [er] at r
  have h1' : ks.length ≤ 300 := by rw [hks, List.length_map]; exact h1
  refine call_set_big (P := X.prog) (w := X.w) ks (I1.ok.hd hc) pl.isList (by simpa using refs_of_vals r) (fun p hp => I1.isT (hk p hp).1) h1' hnd (by omega) fun h' tk L es ep t R g kp => ?_
  refine PyProof.Rows.args_nil ?_
  have I2 : Inv X pins σ H1 { s1 with heap := h', toks := tk } := I1.kept kp
  refine sorted_big (s := { s1 with heap := h', toks := tk }) R (I2.ok.hd hc) (by rw [g.length_eq]; exact h1') (fun p hp => (hk p (g.mem_iff.mp hp)).2) fun s' p out c M k gg o hp hgt hout pM pw => ?_
  have pMk := pM.trans g
  have hlen : (M.map fun q => V.ref q.1).length ≤ sizeLine := by rw [List.length_map, pMk.length_eq, sizeLine_eq]; omega
  have hn : H1 p = none := I2.hok.fresh hp
  have J : Inv X pins σ (upd H1 p (.lst (M.map fun q => V.ref q.1))) { { s1 with heap := h', toks := tk } with heap := s'.heap, gens := s'.gens, drawn := s'.drawn, toks := s'.toks } :=
    I2.call (ch := []) (Un.laid k hp hn) (I2.hok.laid k hp ⟨hlen, out.toList, c, by rw [hout]; exact vals_of_refs M, hgt⟩) (by rw [gg]; exact I2.bare) (fun _ z => nomatch z)
  have e : s' = { { s1 with heap := h', toks := tk } with heap := s'.heap, gens := s'.gens, drawn := s'.drawn, toks := s'.toks } := by
    cases s'
    cases s1
    cases o
    rfl
  rw [e]
  have eM : (M.map fun q => V.ref q.1) = (M.map ofK).map fun q => V.ref q.1 := by rw [List.map_map]; rfl
  rw [eM] at J
  refine ⟨.ref p, _, J, rfl, q1 (M.map ofK) p (by rw [← back]; exact pMk.map _) ?_ hn⟩
  rw [List.map_map]
  refine List.pairwise_map.mpr (List.Pairwise.imp_of_mem (fun {q r} hq hr h3 => ?_) pw)
  obtain ⟨_, m, n, e1⟩ := hk q (pMk.mem_iff.mp hq)
  obtain ⟨_, m', n', e2⟩ := hk r (pMk.mem_iff.mp hr)
  have := h3 m n m' n' e1 e2
  show le2 (q.2.getD 0 0, q.2.getD 1 0) (r.2.getD 0 0, r.2.getD 1 0)
  rw [e1, e2]
  exact this
end
end GB
namespace GL
open PySem PySem.Spec PyProof.Rows L2
section
variable {K : Fg} {B S0 S1 S S' : Hp} {σ : L2.St} {H H' : Hp} {F : Nat → List Addr} {G G1 : List Sl} {ta : TE}
theorem repl_keys2 : ∀ {vs : List V} {xs : List (Int × Int)}, RepL K S vs xs → ∃ ks : List (Addr × Int × Int), vs = ks.map (fun p => V.ref p.1) ∧ ks.map (·.2) = xs ∧ ∀ p ∈ ks, SqT K S p.1 [V.int p.2.1, V.int p.2.2]
  | [], [], _ => ⟨[], rfl, rfl, fun p h => nomatch h⟩
  | v :: vs, x :: xs, h => by
    obtain ⟨ks, e1, e2, hk⟩ := repl_keys2 h.2
    obtain ⟨p, a, b, e, hp, ra, rb⟩ := h.1
    have ra : a = .int x.1 := ra
    have rb : b = .int x.2 := rb
    subst e ra rb
    refine ⟨(p, x) :: ks, by rw [e1]; rfl, by rw [List.map_cons, e2], fun q hq => ?_⟩
    rcases List.mem_cons.mp hq with z | z
    · rw [z]; exact hp
    · exact hk q z
  | [], _ :: _, h => h.elim
  | _ :: _, [], h => h.elim
theorem keys2_repl : ∀ {ks : List (Addr × Int × Int)}, (∀ p ∈ ks, SqT K S p.1 [V.int p.2.1, V.int p.2.2]) → RepL K S (ks.map fun p => V.ref p.1) (ks.map (·.2))
  | [], _ => True.intro
  | p :: ks, h => ⟨⟨p.1, _, _, rfl, h p List.mem_cons_self, rfl, rfl⟩, keys2_repl fun q hq => h q (List.mem_cons_of_mem _ hq)⟩
theorem el_sortSetB {xs : List (Int × Int)} (h : EvC K ta G xs G1) (hz : xs.length ≤ 300) (hp : xs.Pairwise lt2) : EvL K (GB.tSortSetB K ta) G xs G1 := fun B S0 S σ H F k Q q =>
  h B S0 S σ H F k _ fun v S1 H1 e1 k1 r1 => by
    obtain ⟨p, vs, rfl, hpp, hr⟩ := r1.at k1
    obtain ⟨ks, ev, ex, hk⟩ := repl_keys2 hr
    subst ev
    have hnd : (ks.map (·.2)).Nodup := by rw [ex]; exact hp.imp fun h => lt2_ne h
    refine ⟨p, ks, rfl, SqL.of hpp, by rw [← List.length_map (f := fun p : Addr × Int × Int => p.2), ex]; exact hz, fun p hp => seqT k1.sub (hk p hp), hnd, fun M l pm pw hl => ?_⟩
    have pM : (M.map (·.2)).Perm (ks.map (·.2)) := pm.map _
    have nM : (M.map (·.2)).Nodup := pM.nodup_iff.mpr hnd
    have e : M.map (·.2) = xs := by
      refine pw_lt2_unique ((pw.and nM).imp fun ⟨a, b⟩ => lt2_of a b) hp fun x => ?_
      rw [pM.mem_iff, ex]
    have h1 : RepL K S1 (M.map fun q => V.ref q.1) xs := by
      rw [← e]
      exact keys2_repl fun p hp => hk p (pm.mem_iff.mp hp)
    exact mk_list k1 hl h1 fun p vs S2 H2 e2 k2 a b c d r => q p vs S2 H2 (e1.trans e2) k2 a b c d r
end
end GL
namespace L12
open PySem PySem.Spec PyProof.Rows L2 GL
def topS (i : Nat) : Stmt := PySem.Challenge.pw_warmove_k12_whole_rounds_and_plans.main.body.getD i (.Pass ⟨0, 0, 0, 0⟩)
abbrev s_written_in : Stmt := topS 1
abbrev s_rounds : Stmt := topS 2
abbrev s_left_by : Stmt := topS 4
abbrev s_is_plan : Stmt := topS 5
abbrev s_carried_by : Stmt := topS 6
abbrev s_last_writings : Stmt := topS 8
abbrev s_lack : Stmt := topS 9
abbrev s_bars : Stmt := topS 10
abbrev s_least_left : Stmt := topS 11
abbrev s__law_spring : Stmt := topS 13
abbrev s__law_cup : Stmt := topS 14
abbrev s__law_trace : Stmt := topS 15
abbrev s__law_sizes : Stmt := topS 16
abbrev s_law : Stmt := topS 17
structure Tx (K : Fg) (mg : Str → Option Value) : Prop where
  d_written_in : Def K mg "written_in" s_written_in ["trace", "start", "stop"]
  d_rounds : Def K mg "rounds" s_rounds ["n", "trace", "b", "s", "most"]
  d_left_by : Def K mg "left_by" s_left_by ["n", "trace", "plan"]
  d_is_plan : Def K mg "is_plan" s_is_plan ["n", "trace", "b", "s", "plan"]
  d_carried_by : Def K mg "carried_by" s_carried_by ["n", "trace", "plan"]
  d_last_writings : Def K mg "last_writings" s_last_writings ["n", "trace", "stop"]
  d_lack : Def K mg "lack" s_lack ["lasts", "b", "stop", "t"]
  d_bars : Def K mg "bars" s_bars ["n", "trace", "b", "s", "stop", "t"]
  d_least_left : Def K mg "least_left" s_least_left ["n", "trace", "b", "stop"]
  d__law_spring : Def K mg "_law_spring" s__law_spring ["script", "k"]
  d__law_cup : Def K mg "_law_cup" s__law_cup ["spring", "many"]
  d__law_trace : Def K mg "_law_trace" s__law_trace ["spring", "n", "most"]
  d__law_sizes : Def K mg "_law_sizes" s__law_sizes ["spring"]
  d_law : Def K mg "law" s_law ["script"]
  n_any : mg "any" = none
  n_enumerate : mg "enumerate" = none
  n_int : mg "int" = none
  n_len : mg "len" = none
  n_list : mg "list" = none
  n_max : mg "max" = none
  n_min : mg "min" = none
  n_range : mg "range" = none
  n_set : mg "set" = none
  n_sorted : mg "sorted" = none
  n_tuple : mg "tuple" = none
end L12
namespace L12
open PySem PySem.Spec PyProof.Rows L2 GL
theorem sc__law_spring : FnScope ["script", "k", "number", "stir", "found", "turn"] ["script", "k"] (defScope s__law_spring) := ⟨rfl, rfl, rfl, by decide +kernel, rfl, by decide +kernel, by decide +kernel⟩
section
variable {P : Program} {w : World} {K : Fg} {mg : Str → Option Value} {base : Heap}
set_option maxHeartbeats 4000000 in
theorem ok__law_spring (T : Tx K mg)  : Cal P w K mg base 1 "_law_spring" ["script", "k"] (spSpring K) := by
  have nd := sc__law_spring.nd
  refine def_spring (k := 0) T.d__law_spring sc__law_spring rfl fun fa cdv A outer s H E hr => ?_
  refine ⟨_, pss_cons (ps_set (i := 2) nd rfl (.inl rfl) (pe_op op_add (pe_op op_mul (pe_int) (pv 1)) (pe_int)))
      (Evl.pss_cut (ps_if (pt_cmpR op_lt (pv 1) (pe_callB call_lenG (by rfl) T.n_len (by decide +kernel) (pa_cons (pv 0) pa_nil)) (nomark _)) (pss_cons (ps_set (i := 2) nd rfl (.inl rfl) (pe_ix (r := rIxL K) ix_list (pv 0) (pv 1) (fun _ _ => rfl)))
      (pss_nil)) (pss_nil))
      (pss_cons (ps_if (pt_cmpR op_eq (pe_op op_mod (pv 2) (pe_int)) (pe_int) (nomark _)) (pss_cons (ps_ret (pe_lst (pa_cons (pe_op op_fdiv (pv 2) (pe_int)) pa_nil)))
      (pss_nil)) (pss_nil))
      (pss_cons (ps_set (i := 3) nd rfl (.inl rfl) (pe_op op_mod (pe_op op_add (pe_op op_add (pe_op op_mul (pe_op op_mod (pv 2) (pe_int)) (pe_int)) (pe_op op_mul (pe_int) (pv 1))) (pe_int)) (pe_int)))
      (pss_cons (ps_set (i := 4) nd rfl (.inl rfl) (pe_int))
      (pss_cons (ps_for PassesOwn.never rfl (pi_range1 (by rfl) T.n_range (pa_cons (pe_int) pa_nil)) (pg_name (i := 5) nd rfl (.inl rfl))
      (pss_cons (ps_set (i := 3) nd rfl (.inl rfl) (pe_op op_mod (pe_op op_add (pe_op op_add (pe_op op_add (pe_op op_mul (pv 3) (pv 3)) (pe_op op_mul (pe_int) (pv 3))) (pe_op op_mul (pe_int) (pv 5))) (pe_int)) (pe_int)))
      (pss_cons (ps_set (i := 4) nd rfl (.inl rfl) (pe_op op_add (pe_op op_mul (pv 4) (pe_int)) (pv 3)))
      (pss_nil))))
      (pss_cons (ps_ret (pe_lst (pa_cons (pv 4) pa_nil)))
      (pss_nil))))))), ?_⟩
  intro script k h0 h1 B S0 Q hret
  show At _ _ _ _ [.im script, .im k, .no, .no, .no, .no]
  refine qg_set 2 (ev_i0 (ev_iC (ev_int) (ev_var (i := 1) rfl) (by exact .inl ⟨by decide, by decide⟩)) (ev_int)) rfl fun number h_number => ?_
  refine q_cut1 [.im script, .im k, .im (if decide (k < (script.l.length : Int)) = true then ix script.l k else number), .no, .no, .no] ?_ ?_
  · refine q_ifc (et_test (ev_b0 (ev_var (i := 1) rfl) (ev_lenS (ev_var (i := 0) rfl)))) (fun hb0 => ?_) (fun hb0 => ?_)
    ·
      refine qg_set 2 (ev_ixS (ev_var (i := 0) rfl) (ev_var (i := 1) rfl) (by simp only [decide_eq_true_eq] at hb0; omega)) rfl fun number1 h_number1 => ?_
      refine q_next ?_
      exact at_mid (.k (.k (.k (.d (.d (.d .n)))))) (by subst_vars; simp only [hb0, if_true, if_false, Bool.false_eq_true])
    ·
      refine q_next ?_
      exact at_mid (.k (.k (.k (.d (.d (.d .n)))))) (by subst_vars; simp only [hb0, if_true, if_false, Bool.false_eq_true])
  refine at_gen 2 rfl fun number2 h_number2 => ?_
  refine q_if (et_test (ev_eq (ev_iC (ev_var (i := 2) rfl) (ev_int) (by decide)) (ev_int))) (fun hb1 => ?_) (fun hb1 => ?_)
  ·
    exact q_retL (el_lst (els_cons (ev_iC (ev_var (i := 2) rfl) (ev_int) (by exact ⟨by decide, by decide⟩)) (els_nil)) (by simp)) (fun S_ σ_ H_ F_ p_ vs_ k1 a_ b_ c_ d_ r_ => hret _ _ S_ σ_ H_ F_ p_ vs_ (k1) a_ b_ c_ d_ r_)
  ·
    refine q_next ?_
    refine qg_set 3 (ev_iC (ev_i0 (ev_i0 (ev_iC (ev_iC (ev_var (i := 2) rfl) (ev_int) (by decide)) (ev_int) (by exact .inr ⟨by decide, by decide⟩)) (ev_iC (ev_int) (ev_var (i := 1) rfl) (by exact .inl ⟨by decide, by decide⟩))) (ev_int)) (ev_int) (by decide)) rfl fun stir h_stir => ?_
    refine qg_set 4 (ev_int) rfl fun found h_found => ?_
    refine qg_inv (fun st_ : Int × Int => [.im script, .im k, .im number2, .im st_.1, .im st_.2, .no]) (fun _ s => 0 ≤ s.1 ∧ s.1 < 2147483549) (stir, found) (it_rng1 (ev_int) (by decide)) (.k (.k (.k (.k (.k (.d .n)))))) (by subst_vars; exact ⟨Int.emod_nonneg _ (by decide), Int.emod_lt_of_pos _ (by decide)⟩) (fun pre0 turn post0 s0 ex0 hs0 Sb0 rb0 => ⟨_, _, tg_name rfl, ?_⟩) (fun s0 hs0 => ?_)
    ·
      obtain ⟨stir_b, found_b⟩ := s0
      show At _ _ _ _ [.im script, .im k, .im number2, .im stir_b, .im found_b, .im turn]
      refine qg_set 3 (ev_iC (ev_i0 (ev_i0 (ev_i0 (ev_iC (ev_var (i := 3) rfl) (ev_var (i := 3) rfl) (by exact .inl ⟨by dsimp only at hs0; omega, by dsimp only at hs0; omega⟩)) (ev_iC (ev_int) (ev_var (i := 3) rfl) (by exact .inl ⟨by decide, by decide⟩))) (ev_iC (ev_int) (ev_var (i := 5) rfl) (by exact .inl ⟨by decide, by decide⟩))) (ev_int)) (ev_int) (by decide)) rfl fun stir1 h_stir1 => ?_
      refine qg_set 4 (ev_i0 (ev_iC (ev_var (i := 4) rfl) (ev_int) (by exact .inr ⟨by decide, by decide⟩)) (ev_var (i := 3) rfl)) rfl fun found1 h_found1 => ?_
      exact q_next (at_mid (.k (.k (.k (.k (.k (.d .n)))))) ⟨(stir1, found1), by rfl, by subst_vars; exact ⟨Int.emod_nonneg _ (by decide), Int.emod_lt_of_pos _ (by decide)⟩⟩)
    ·
      obtain ⟨stir_e, found_e⟩ := s0
      show At _ _ _ _ [.im script, .im k, .im number2, .im stir_e, .im found_e, .no]
      exact q_retL (el_lst (els_cons (ev_var (i := 4) rfl) (els_nil)) (by simp)) (fun S_ σ_ H_ F_ p_ vs_ k1 a_ b_ c_ d_ r_ => hret _ _ S_ σ_ H_ F_ p_ vs_ (k1) a_ b_ c_ d_ r_)
end
theorem sc__law_cup : FnScope ["spring", "many", "digit"] ["spring", "many"] (defScope s__law_cup) := ⟨rfl, rfl, rfl, by decide +kernel, rfl, by decide +kernel, by decide +kernel⟩
section
variable {P : Program} {w : World} {K : Fg} {mg : Str → Option Value} {base : Heap}
set_option maxHeartbeats 4000000 in
theorem ok__law_cup (T : Tx K mg)  : Cal P w K mg base 1 "_law_cup" ["spring", "many"] (spM K (fun (z : Spr) (a : Int × Unit) => lawCup z a.1) (fun z a => 0 < a.1 ∧ a.1 < 1073741824)) := by
  have nd := sc__law_cup.nd
  refine def_spM (k := 0) T.d__law_cup sc__law_cup rfl (fun z a _ => by unfold lawCup; rfl) fun fa cdv A outer s H E hr => ?_
  refine ⟨_, pss_cons (ps_set (i := 2) nd rfl (.inl rfl) (pe_op op_mod (pe_ix (r := rIxL K) ix_list (pv 0) (pe_int) (fun _ _ => rfl)) (pv 1)))
      (pss_cons (ps_asg (pe_op op_fdiv (pe_ix (r := rIxL K) ix_list (pv 0) (pe_int) (fun _ _ => rfl)) (pv 1)) (pg_sub (pv 0) pe_int set_list))
      (pss_cons (ps_ret (pv 2))
      (pss_nil))), ?_⟩
  rintro spring ⟨many, _⟩ hpre B S0 Q hret
  show At _ _ _ _ [.ow spring, .im many, .no]
  obtain ⟨h0, h1⟩ := hpre
  refine qg_set 2 (ev_iC (ev_spr0 (i := 0) rfl) (ev_var (i := 1) rfl) (by exact h0)) rfl fun digit h_digit => ?_
  refine q_sprset (i := 0) (ev_iC (ev_spr0 (i := 0) rfl) (ev_var (i := 1) rfl) (by exact ⟨h0, h1⟩)) rfl ?_
  refine at_genO 0 rfl fun spring1 h_spring1 => ?_
  show At _ _ _ _ [.ow spring1, .im many, .im digit]
  exact q_ret (ev_var (i := 2) rfl) (hret _ _ _ rfl (by subst_vars; unfold lawCup; rfl))
end
theorem sc__law_trace : FnScope ["spring", "n", "most", "often", "found", "beat", "row", "turn", "sheet", "k"] ["spring", "n", "most"] (defScope s__law_trace) := ⟨rfl, rfl, rfl, by decide +kernel, rfl, by decide +kernel, by decide +kernel⟩
section
variable {P : Program} {w : World} {K : Fg} {mg : Str → Option Value} {base : Heap}
set_option maxHeartbeats 4000000 in
theorem ok__law_trace (T : Tx K mg) (c__law_cup : Cal P w K mg base 1 "_law_cup" ["spring", "many"] (spM K (fun (z : Spr) (a : Int × Unit) => lawCup z a.1) (fun z a => 0 < a.1 ∧ a.1 < 1073741824))) : Cal P w K mg base 2 "_law_trace" ["spring", "n", "most"] (spRS K (fun (a : Int × Int × Unit) (y : (List (Tp Int))) => TrLaw a.1 a.2.1 y) (fun a => 1 ≤ a.1 ∧ a.1 ≤ 12 ∧ 0 ≤ a.2.1 ∧ a.2.1 ≤ 1000)) := by
  have nd := sc__law_trace.nd
  refine def_spR (k := 1) T.d__law_trace sc__law_trace rfl fun fa cdv A outer s H E hr => ?_
  refine ⟨_, pss_cons (ps_setLc (i := 3) (own := [("k", 9)]) (g := gName 9) rfl nd rfl rfl (sw_true rfl rfl rfl (by decide +kernel)) (pi_range1 (by rfl) T.n_range (pa_cons (pe_op op_add (pe_int) (pe_cal c__law_cup hr (by decide) (by rfl) (pa_cons (pv 0) (pa_cons (pe_int) pa_nil)))) pa_nil)) (blkOk_by (N := ["spring", "n", "most", "often", "found", "beat", "row", "turn", "sheet", "k"]) (sc := defScope s__law_trace) (by decide +kernel)) (fun _ _ _ _ _ => pg_name (i := 9) nd rfl (.inl rfl) (.inr rfl)) (fun _ _ _ _ _ => pts_nil) (fun _ _ _ _ _ => pe_cal c__law_cup hr (by decide) (by rfl) (pa_cons (pv 0) (pa_cons (pv 1) pa_nil))))
      (pss_cons (ps_set (i := 4) nd rfl (.inl rfl) (pe_lst (pa_nil)))
      (pss_cons (ps_for PassesOwn.never rfl (pi_range1 (by rfl) T.n_range (pa_cons (pe_cal c__law_cup hr (by decide) (by rfl) (pa_cons (pv 0) (pa_cons (pe_op op_add (pv 2) (pe_int)) pa_nil))) pa_nil)) (pg_name (i := 5) nd rfl (.inl rfl))
      (pss_cons (ps_set (i := 6) nd rfl (.inl rfl) pe_dnewK)
      (pss_cons (ps_for PassesOwn.never rfl (pi_range1 (by rfl) T.n_range (pa_cons (pe_ix (r := rIxL K) ix_list (pe_lst (pa_cons (pe_int) (pa_cons (pe_int) (pa_cons (pe_int) (pa_cons (pe_int) (pa_cons (pe_int) (pa_cons (pv 1) pa_nil))))))) (pe_cal c__law_cup hr (by decide) (by rfl) (pa_cons (pv 0) (pa_cons (pe_int) pa_nil))) (fun _ _ => rfl)) pa_nil)) (pg_name (i := 7) nd rfl (.inl rfl))
      (pss_cons (ps_set (i := 8) nd rfl (.inl rfl) (pe_cal c__law_cup hr (by decide) (by rfl) (pa_cons (pv 0) (pa_cons (pv 1) pa_nil))))
      (pss_cons (ps_dput (hu_of hr) (pv 6) (pe_ix (r := rIxL K) ix_list (pe_lst (pa_cons (pv 8) (pa_cons (pe_ix (r := rIxL K) ix_list (pv 3) (pe_op op_mod (pv 8) (pe_callB call_lenG (by rfl) T.n_len (by decide +kernel) (pa_cons (pv 3) pa_nil))) (fun _ _ => rfl)) pa_nil))) (pe_callTy call_intG (by rfl) T.n_int (by decide +kernel) (pa_cons (pe_cmpR op_gt (pe_cal c__law_cup hr (by decide) (by rfl) (pa_cons (pv 0) (pa_cons (pe_int) pa_nil))) (pe_int) (nomark _)) pa_nil)) (fun _ _ => rfl)) (pe_bl) rfl)
      (pss_nil))))
      (pss_cons (ps_expr (pe_bm PySem.F.plainAttrs_list PySem.F.slot_list_append PySem.F.type_list_append mt_append (pv 4) (pa_cons (pe_callTy call_tupG (by rfl) T.n_tuple (by decide +kernel) (pa_cons (pe_callB (call_sortDI rfl) (by rfl) T.n_sorted (by decide +kernel) (pa_cons (pv 6) pa_nil)) pa_nil)) pa_nil)))
      (pss_nil)))))
      (pss_cons (ps_ret (pv 4))
      (pss_nil)))), ?_⟩
  rintro spring ⟨n, most, _⟩ hpre B S0 Q hret
  show At _ _ _ _ [.ow spring, .im n, .im most, .no, .no, .no, .no, .no, .no, .no]
  obtain ⟨n0, n1, m0, m1⟩ := hpre
  dsimp only at n0 n1 m0 m1
  refine qg_set 3 (EvL.ev (el_lcE (fun st_ : Spr => [.ow st_, .im n, .im most, .no, .no, .no, .no, .no, .no, .no]) _ (fun st_ x => (lawCup st_ (n, ()).1).2) (fun st_ x => (lawCup st_ (n, ()).1).1) (it_rng1 (ev_i0 (ev_int) (ev_callM (i := 0) rfl (ea_cons (ev_int) (ea_nil)) rfl (by refine ⟨?_, ?_⟩ <;> first | decide | omega | (dsimp only; omega)))) (by have := cup_bd spring (m := 3) (by decide); dsimp only; omega)) (by rw [len_rng]; have := cup_bd spring (m := 3) (by decide); dsimp only; omega) (fun x st_ hm_x => ⟨_, _, tg_name rfl, (by decide), _, ev_callM (i := 0) rfl (ea_cons (ev_var (i := 1) rfl) (ea_nil)) rfl (by refine ⟨?_, ?_⟩ <;> first | decide | omega | (dsimp only; omega)), .a (by decide) (.b rfl (.b rfl (.b rfl (.b rfl (.b rfl (.b rfl (.b rfl (.b rfl (.b rfl (.n))))))))))⟩))) rfl fun often h_often => ?_
  refine at_genO 0 rfl fun spring1 h_spring1 => ?_
  show At _ _ _ _ [.ow spring1, .im n, .im most, .im often, .no, .no, .no, .no, .no, .no]
  have hof : ∀ y ∈ often, 0 ≤ y ∧ y < n := by rw [h_often]; exact mapX_all _ (fun s x => cup_bd s (by omega)) _ _
  have hol : 1 ≤ often.length ∧ often.length ≤ 3 := by
    rw [h_often, mapX_len, len_rng]
    have := cup_bd spring (m := 3) (by decide)
    dsimp only
    omega
  have ha1 : spring1.a = spring.a := by
    rw [h_spring1]
    exact mapX_inv (fun s : Spr => s.a = spring.a) (fun s x h => by rw [cup_a]; exact h) _ _ (cup_a _ _)
  clear h_often h_spring1
  refine qg_own 4 (el_lst (els_nil (α := (Tp Int))) (by simp)) rfl fun found h_found => ?_
  refine qg_inv (fun st_ : Spr × (List (Tp Int)) => [.ow st_.1, .im n, .im most, .im often, .ow st_.2, .no, .no, .no, .no, .no]) (fun pre st => st.1.a = spring.a ∧ st.2.length = pre.length ∧ ∀ t ∈ st.2, RowOk n t) (_, found) (it_rng1 (ev_callM (i := 0) rfl (ea_cons (ev_i0 (ev_var (i := 2) rfl) (ev_int)) (ea_nil)) rfl (by refine ⟨?_, ?_⟩ <;> first | decide | omega | (dsimp only; omega))) (by have := cup_bd spring1 (m := most + 1) (by omega); dsimp only; omega)) (.k (.k (.k (.k (.k (.d (.d (.d (.d (.d .n)))))))))) (by refine ⟨(cup_a _ _).trans ha1, ?_, ?_⟩ <;> rw [h_found] <;> simp) (fun pre0 beat post0 s0 ex0 hs0 Sb0 rb0 => ⟨_, _, tg_name rfl, ?_⟩) (fun s0 hs0 => ?_)
  ·
    obtain ⟨spring_b, found_b⟩ := s0
    show At _ _ _ _ [.ow spring_b, .im n, .im most, .im often, .ow found_b, .im beat, .no, .no, .no, .no]
    obtain ⟨hsa, hfl, hfr⟩ := hs0
    dsimp only at hsa hfl hfr ex0
    obtain ⟨_, hbp, _, hbm⟩ := rng_pre ex0
    have hcb := cup_bd spring1 (m := most + 1) (by omega)
    refine q_dnew Bool (i := 6) rfl ?_
    refine at_genO 6 rfl fun row h_row => ?_
    show At _ _ _ _ [.ow spring_b, .im n, .im most, .im often, .ow found_b, .im beat, .ow row, .no, .no, .no]
    refine qg_inv (fun st_ : Spr × (Dct Bool) => [.ow st_.1, .im n, .im most, .im often, .ow found_b, .im beat, .ow st_.2, .no, .no, .no]) (fun pre st => st.1.a = spring_b.a ∧ st.2.Ok n) (_, row) (it_rng1 (ev_ix (EvL.ev (el_lst (els_cons (ev_int) (els_cons (ev_int) (els_cons (ev_int) (els_cons (ev_int) (els_cons (ev_int) (els_cons (ev_var (i := 1) rfl) (els_nil))))))) (by simp))) (ev_callM (i := 0) rfl (ea_cons (ev_int) (ea_nil)) rfl (by refine ⟨?_, ?_⟩ <;> first | decide | omega | (dsimp only; omega))) (by exact ix_6 (cup_bd _ (by decide)))) (by have := tr_many (n := n) (z := spring_b) n0 n1; dsimp only; omega)) (.k (.k (.k (.k (.k (.k (.k (.d (.d (.d .n)))))))))) (by exact ⟨cup_a _ _, by rw [h_row]; exact Dct.Ok.emp⟩) (fun pre1 turn post1 s1 ex1 hs1 Sb1 rb1 => ⟨_, _, tg_name rfl, ?_⟩) (fun s1 hs1 => ?_)
    ·
      obtain ⟨spring_b1, row_b⟩ := s1
      show At _ _ _ _ [.ow spring_b1, .im n, .im most, .im often, .ow found_b, .im beat, .ow row_b, .im turn, .no, .no]
      obtain ⟨hsa2, hro⟩ := hs1
      dsimp only at hsa2 hro
      refine qg_set 8 (ev_callM (i := 0) rfl (ea_cons (ev_var (i := 1) rfl) (ea_nil)) rfl (by refine ⟨?_, ?_⟩ <;> first | decide | omega | (dsimp only; omega))) rfl fun sheet h_sheet => ?_
      refine at_genO 0 rfl fun spring2 h_spring2 => ?_
      obtain ⟨d, e_d, l_d, u_d, a_spring2⟩ := cup_ex' h_spring2 (by first | decide | omega | (dsimp only; omega))
      rw [e_d] at h_sheet
      clear e_d h_spring2; (try dsimp only at u_d)
      show At _ _ _ _ [.ow spring2, .im n, .im most, .im often, .ow found_b, .im beat, .ow row_b, .im turn, .im sheet, .no]
      refine qg_dput 6 (ev_bl) (ev_ix (EvL.ev (el_lst (els_cons (ev_var (i := 8) rfl) (els_cons (ev_ix (ev_var (i := 3) rfl) (ev_iC (ev_var (i := 8) rfl) (ev_len (EvX.c (ev_var (i := 3) rfl))) (by first | decide | (show (0 : Int) < _; omega))) (by exact ⟨Int.emod_nonneg _ (by omega), Int.emod_lt_of_pos _ (by omega)⟩)) (els_nil))) (by simp))) (ev_intB (ev_b0 (ev_callM (i := 0) rfl (ea_cons (ev_int) (ea_nil)) rfl (by refine ⟨?_, ?_⟩ <;> first | decide | omega | (dsimp only; omega))) (ev_int))) (by exact ix_2 (by split <;> omega))) rfl rfl (by exact (hro.mono (by omega)).small) fun row1 h_row1 => ?_
      refine at_genO 0 rfl fun spring3 h_spring3 => ?_
      show At _ _ _ _ [.ow spring3, .im n, .im most, .im often, .ow found_b, .im beat, .ow row1, .im turn, .im sheet, .no]
      exact q_next (at_mid (.k (.k (.k (.k (.k (.k (.k (.d (.d (.d .n)))))))))) ⟨(spring3, row1), by rfl, by rw [h_row1]; exact ⟨by rw [h_spring3, cup_a, a_spring2]; exact hsa2, hro.put _ (tr_key (by omega) hof (by omega))⟩⟩)
    ·
      obtain ⟨spring_e, row_e⟩ := s1
      show At _ _ _ _ [.ow spring_e, .im n, .im most, .im often, .ow found_b, .im beat, .ow row_e, .no, .no, .no]
      obtain ⟨hsa2, hro⟩ := hs1
      dsimp only at hsa2 hro
      refine qg_app 4 rfl (ev_tup (EvL.c (el_sortedD (ed_own (i := 6) rfl) (by have := (hro.mono (m' := ((60 : Nat) : Int)) (by omega)).len; omega)))) rfl (by exact lt_line (by omega)) fun found1 h_found1 => ?_
      exact q_next (at_mid (.k (.k (.k (.k (.k (.d (.d (.d (.d (.d .n)))))))))) ⟨(spring_e, found1), by rfl, by rw [h_found1]; exact ⟨hsa2.trans hsa, by simp [hfl], fun t ht => by rcases List.mem_append.mp ht with q | q; exact hfr t q; rw [List.mem_singleton.mp q]; exact row_ok hro⟩⟩)
  ·
    obtain ⟨spring_e1, found_e⟩ := s0
    show At _ _ _ _ [.ow spring_e1, .im n, .im most, .im often, .ow found_e, .no, .no, .no, .no, .no]
    obtain ⟨hsa, hfl, hfr⟩ := hs0
    dsimp only at hsa hfl hfr
    have hcb := cup_bd spring1 (m := most + 1) (by omega)
    refine at_relL (i := 4) rfl ?_
    exact q_ret (ev_var (i := 4) rfl) (hret _ _ _ rfl (by exact hsa) (by exact ⟨by rw [hfl, len_rng]; dsimp only; omega, hfr⟩))
end
theorem sc__law_sizes : FnScope ["spring", "n", "b"] ["spring"] (defScope s__law_sizes) := ⟨rfl, rfl, rfl, by decide +kernel, rfl, by decide +kernel, by decide +kernel⟩
section
variable {P : Program} {w : World} {K : Fg} {mg : Str → Option Value} {base : Heap}
set_option maxHeartbeats 4000000 in
theorem ok__law_sizes (T : Tx K mg) (c__law_cup : Cal P w K mg base 1 "_law_cup" ["spring", "many"] (spM K (fun (z : Spr) (a : Int × Unit) => lawCup z a.1) (fun z a => 0 < a.1 ∧ a.1 < 1073741824))) : Cal P w K mg base 2 "_law_sizes" ["spring"] (spRS K (fun (a : Unit) (y : (T3 Int Int Int)) => SzOk y) (fun a => True)) := by
  have nd := sc__law_sizes.nd
  refine def_spR (k := 1) T.d__law_sizes sc__law_sizes rfl fun fa cdv A outer s H E hr => ?_
  refine ⟨_, pss_cons (ps_set (i := 1) nd rfl (.inl rfl) (pe_op op_add (pe_int) (pe_cal c__law_cup hr (by decide) (by rfl) (pa_cons (pv 0) (pa_cons (pe_ix (r := rIxL K) ix_list (pe_lst (pa_cons (pe_int) (pa_cons (pe_int) (pa_cons (pe_int) pa_nil)))) (pe_cal c__law_cup hr (by decide) (by rfl) (pa_cons (pv 0) (pa_cons (pe_int) pa_nil))) (fun _ _ => rfl)) pa_nil)))))
      (pss_cons (ps_set (i := 2) nd rfl (.inl rfl) (pe_ix (r := rIxL K) ix_list (pe_lst (pa_cons (pe_int) (pa_cons (pe_int) (pa_cons (pe_int) (pa_cons (pe_int) (pa_cons (pe_op op_add (pe_int) (pe_cal c__law_cup hr (by decide) (by rfl) (pa_cons (pv 0) (pa_cons (pe_int) pa_nil)))) pa_nil)))))) (pe_cal c__law_cup hr (by decide) (by rfl) (pa_cons (pv 0) (pa_cons (pe_int) pa_nil))) (fun _ _ => rfl)))
      (pss_cons (ps_ret (pe_tup (pa_cons (pv 1) (pa_cons (pv 2) (pa_cons (pe_ix (r := rIxL K) ix_list (pe_lst (pa_cons (pe_int) (pa_cons (pe_int) (pa_cons (pe_int) (pa_cons (pe_int) (pa_cons (pe_int) (pa_cons (pv 1) (pa_cons (pe_cal c__law_cup hr (by decide) (by rfl) (pa_cons (pv 0) (pa_cons (pe_int) pa_nil))) pa_nil)))))))) (pe_cal c__law_cup hr (by decide) (by rfl) (pa_cons (pv 0) (pa_cons (pe_int) pa_nil))) (fun _ _ => rfl)) pa_nil)))))
      (pss_nil))), ?_⟩
  rintro spring ⟨_⟩ hpre B S0 Q hret
  show At _ _ _ _ [.ow spring, .no, .no]
  refine qg_set 1 (ev_i0 (ev_int) (ev_callM (i := 0) rfl (ea_cons (ev_ix (EvL.ev (el_lst (els_cons (ev_int) (els_cons (ev_int) (els_cons (ev_int) (els_nil)))) (by simp))) (ev_callM (i := 0) rfl (ea_cons (ev_int) (ea_nil)) rfl (by exact ⟨by decide, by decide⟩)) (by exact ix3 (cup_bd _ (by decide)))) (ea_nil)) rfl (by exact sz_m))) rfl fun n h_n => ?_
  refine at_genO 0 rfl fun spring1 h_spring1 => ?_
  show At _ _ _ _ [.ow spring1, .im n, .no]
  have hn : 1 ≤ n ∧ n ≤ 12 := sz_n h_n
  have ha1 : spring1.a = spring.a := by rw [h_spring1, cup_a, cup_a]
  clear h_n h_spring1
  refine qg_set 2 (ev_ix (EvL.ev (el_lst (els_cons (ev_int) (els_cons (ev_int) (els_cons (ev_int) (els_cons (ev_int) (els_cons (ev_i0 (ev_int) (ev_callM (i := 0) rfl (ea_cons (ev_int) (ea_nil)) rfl (by exact ⟨by decide, by decide⟩))) (els_nil)))))) (by simp))) (ev_callM (i := 0) rfl (ea_cons (ev_int) (ea_nil)) rfl (by exact ⟨by decide, by decide⟩)) (by exact ix_5 (cup_bd _ (by decide)))) rfl fun b h_b => ?_
  refine at_genO 0 rfl fun spring2 h_spring2 => ?_
  show At _ _ _ _ [.ow spring2, .im n, .im b]
  have hb : 1 ≤ b ∧ b ≤ 6 := sz_b h_b
  have ha2 : spring2.a = spring1.a := by rw [h_spring2, cup_a, cup_a]
  clear h_b h_spring2
  exact q_ret (ev_t3 (ev_var (i := 1) rfl) (ev_var (i := 2) rfl) (ev_ix (EvL.ev (el_lst (els_cons (ev_int) (els_cons (ev_int) (els_cons (ev_int) (els_cons (ev_int) (els_cons (ev_int) (els_cons (ev_var (i := 1) rfl) (els_cons (ev_callM (i := 0) rfl (ea_cons (ev_int) (ea_nil)) rfl (by exact ⟨by decide, by decide⟩)) (els_nil)))))))) (by simp))) (ev_callM (i := 0) rfl (ea_cons (ev_int) (ea_nil)) rfl (by exact ⟨by decide, by decide⟩)) (by exact ix_7 (cup_bd _ (by decide))))) (hret _ _ _ rfl (by rw [cup_a, cup_a, ha2, ha1]) (by exact sz_ok hn hb))
end
theorem sc_written_in : FnScope ["trace", "start", "stop", "found", "tick", "sheet"] ["trace", "start", "stop"] (defScope s_written_in) := ⟨rfl, rfl, rfl, by decide +kernel, rfl, by decide +kernel, by decide +kernel⟩
section
variable {P : Program} {w : World} {K : Fg} {mg : Str → Option Value} {base : Heap}
set_option maxHeartbeats 4000000 in
theorem ok_written_in (T : Tx K mg)  : Cal P w K mg base 1 "written_in" ["trace", "start", "stop"] (spF K (fun a : (List (Tp Int)) × Int × Int × Unit => writtenIn a.1 a.2.1 a.2.2.1) (fun a => TrOk a.1 ∧ 0 ≤ a.2.1 ∧ a.2.1 ≤ 100000 ∧ -1000 ≤ a.2.2.1 ∧ a.2.2.1 ≤ 1000000000000000000000000000000000000000000000000000000000000)) := by
  have nd := sc_written_in.nd
  refine def_spF (k := 0) T.d_written_in sc_written_in rfl fun fa cdv A outer s H E hr => ?_
  refine ⟨_, pss_cons (ps_set (i := 3) nd rfl (.inl rfl) pe_dnewK)
      (pss_cons (ps_for PassesOwn.never rfl (pi_range2 (by rfl) T.n_range (pa_cons (pv 1) (pa_cons (pe_callB (call_minG rfl) (by rfl) T.n_min (by decide +kernel) (pa_cons (pv 2) (pa_cons (pe_callB call_lenG (by rfl) T.n_len (by decide +kernel) (pa_cons (pv 0) pa_nil)) pa_nil))) pa_nil))) (pg_name (i := 4) nd rfl (.inl rfl))
      (pss_cons (ps_for PassesOwn.never rfl (pi_tup (pe_ix (r := rIxL K) ix_list (pv 0) (pv 4) (fun _ _ => rfl))) (pg_name (i := 5) nd rfl (.inl rfl))
      (pss_cons (ps_dput (hu_of hr) (pv 3) (pv 5) (pv 4) rfl)
      (pss_nil)))
      (pss_nil)))
      (pss_cons (ps_ret (pv 3))
      (pss_nil))), ?_⟩
  rintro ⟨trace, start, stop, _⟩ hpre B S0 Q hret
  show At _ _ _ _ [.im trace, .im start, .im stop, .no, .no, .no]
  obtain ⟨ht, h0, h1, h2, h3⟩ := hpre
  have hl := ht.1
  refine q_dnew Int (i := 3) rfl ?_
  refine at_genO 3 rfl fun found h_found => ?_
  refine qg_fold (fun st_ : (Dct Int) => [.im trace, .im start, .im stop, .ow st_, .no, .no]) (writtenStep trace) found (it_rng2 (ev_var (i := 1) rfl) (ev_min (ev_var (i := 2) rfl) (ev_len (EvX.c (ev_var (i := 0) rfl)))) (by dsimp only at *; omega)) (.k (.k (.k (.k (.d (.d .n)))))) (fun pre0 tick post0 s0 ex0 hs0 Sb0 rb0 => ⟨_, _, tg_name rfl, ?_⟩) (fun s0 hs0 => ?_)
  ·
    show At _ _ _ _ [.im trace, .im start, .im stop, .ow s0, .im tick, .no]
    refine qg_fold (fun st_ : (Dct Int) => [.im trace, .im start, .im stop, .ow st_, .im tick, .no]) (fun f x => f.put x tick) s0 (it_tup (ev_ix (ev_var (i := 0) rfl) (ev_var (i := 4) rfl) (by exact rng_at h0 ex0))) (.k (.k (.k (.k (.k (.d .n)))))) (fun pre1 sheet post1 s1 ex1 hs1 Sb1 rb1 => ⟨_, _, tg_name rfl, ?_⟩) (fun s1 hs1 => ?_)
    ·
      show At _ _ _ _ [.im trace, .im start, .im stop, .ow s1, .im tick, .im sheet]
      refine qg_dput 3 (ev_var (i := 4) rfl) (ev_var (i := 5) rfl) rfl rfl (by exact wr_size ht h0 h_found ex0 hs0 ex1 hs1) fun found1 h_found1 => ?_
      exact q_next (at_mid (.k (.k (.k (.k (.k (.d .n)))))) (by subst_vars; rfl))
    ·
      show At _ _ _ _ [.im trace, .im start, .im stop, .ow s1, .im tick, .no]
      exact q_next (at_mid (.k (.k (.k (.k (.d (.d .n)))))) (by subst_vars; rfl))
  ·
    show At _ _ _ _ [.im trace, .im start, .im stop, .ow s0, .no, .no]
    refine at_relD (i := 3) rfl ?_
    exact q_ret (ev_var (i := 3) rfl) (hret _ _ (by subst_vars; rfl))
end
theorem sc_rounds : FnScope ["n", "trace", "b", "s", "most", "found", "copied", "tick", "due", "place", "sheet", "last"] ["n", "trace", "b", "s", "most"] (defScope s_rounds) := ⟨rfl, rfl, rfl, by decide +kernel, rfl, by decide +kernel, by decide +kernel⟩
section
variable {P : Program} {w : World} {K : Fg} {mg : Str → Option Value} {base : Heap}
set_option maxHeartbeats 4000000 in
theorem ok_rounds (T : Tx K mg) (c_written_in : Cal P w K mg base 1 "written_in" ["trace", "start", "stop"] (spF K (fun a : (List (Tp Int)) × Int × Int × Unit => writtenIn a.1 a.2.1 a.2.2.1) (fun a => TrOk a.1 ∧ 0 ≤ a.2.1 ∧ a.2.1 ≤ 100000 ∧ -1000 ≤ a.2.2.1 ∧ a.2.2.1 ≤ 1000000000000000000000000000000000000000000000000000000000000))) : Cal P w K mg base 2 "rounds" ["n", "trace", "b", "s", "most"] (spN K (fun a : Int × (List (Tp Int)) × Int × Int × Int × Unit => roundsM a.1 a.2.1 a.2.2.1 a.2.2.2.1 a.2.2.2.2.1) (fun a => RdP a.1 a.2.1 a.2.2.1 a.2.2.2.2.1)) := by
  have nd := sc_rounds.nd
  refine def_spN (k := 1) T.d_rounds sc_rounds rfl fun fa cdv A outer s H E hr => ?_
  refine ⟨_, pss_cons (ps_set (i := 5) nd rfl (.inl rfl) (pe_lst (pa_nil)))
      (pss_cons (ps_set (i := 6) nd rfl (.inr rfl) pe_dnewK)
      (pss_cons (ps_set (i := 7) nd rfl (.inl rfl) (pe_int))
      (pss_cons (ps_set (i := 8) nd rfl (.inl rfl) (pe_listRg rfl (by rfl) T.n_list (prg_1 (by rfl) T.n_range (pv 0))))
      (pss_cons (ps_while PassesOwn.never (PW.pt (pw_and (pt_cmpR (op_neD hr.units) (pv 8) (pe_lst (pa_nil)) (nomark _)) (pw_and (pt_cmpR op_lt (pe_callB call_lenG (by rfl) T.n_len (by decide +kernel) (pa_cons (pv 5) pa_nil)) (pv 4) (nomark _)) (pw_and1 (PW.pt (pw_or (pt_cmpR (op_eqD hr.units) (pv 5) (pe_lst (pa_nil)) (nomark _)) (pw_or1 (pt_cmpR op_gt (pe_callB call_lenG (by rfl) T.n_len (by decide +kernel) (pa_cons (pv 8) pa_nil)) (pv 3) (nomark _)))))))))
      (pss_cons (ps_expr (pe_bm PySem.F.plainAttrs_list PySem.F.slot_list_append PySem.F.type_list_append mt_append (pv 5) (pa_cons (pe_tup (pa_cons (pv 7) (pa_cons (pe_callTy call_tupG (by rfl) T.n_tuple (by decide +kernel) (pa_cons (pv 8) pa_nil)) pa_nil))) pa_nil)))
      (pss_cons (ps_for PassesOwn.never rfl (pi_enum (by rfl) T.n_enumerate (pa_cons (pv 8) pa_nil)) (pg_tup rfl (pgs_cons (pg_name (i := 9) nd rfl (.inl rfl)) (pgs_cons (pg_name (i := 10) nd rfl (.inl rfl)) (pgs_nil))))
      (pss_cons (ps_dput (hu_of hr) (pv 6) (pv 10) (pe_op op_add (pv 7) (pe_op op_fdiv (pv 9) (pv 2))) rfl)
      (pss_nil)))
      (pss_cons (ps_set (i := 7) nd rfl (.inl rfl) (pe_op op_add (pv 7) (pe_op op_fdiv (pe_op op_sub (pe_op op_add (pe_callB call_lenG (by rfl) T.n_len (by decide +kernel) (pa_cons (pv 8) pa_nil)) (pv 2)) (pe_int)) (pv 2))))
      (pss_cons (ps_set (i := 11) nd rfl (.inr rfl) (pe_cal c_written_in hr (by decide) (by rfl) (pa_cons (pv 1) (pa_cons (pe_int) (pa_cons (pv 7) pa_nil)))))
      (pss_cons (ps_setLc (i := 8) (own := [("sheet", 10)]) (g := gName 10) rfl nd rfl rfl (sw_true rfl rfl rfl (by decide +kernel)) (pi_range1 (by rfl) T.n_range (pa_cons (pv 0) pa_nil)) (blkOk_by (N := ["n", "trace", "b", "s", "most", "found", "copied", "tick", "due", "place", "sheet", "last"]) (sc := defScope s_rounds) (by decide +kernel)) (fun _ _ _ _ _ => pg_name (i := 10) nd rfl (.inl rfl) (.inr rfl)) (fun _ _ _ _ _ => pts_one (PW.pt (pw_and (pt_cmp (pc_din (hu_of hr) (pv 10) (pv 11))) (pw_and1 (pt_cmpR op_ge (pe_dget (hu_of hr) (pv 11) (pv 10) (fun _ _ => rfl)) (pe_dget (hu_of hr) (pv 6) (pv 10) (fun _ _ => rfl)) (nomark _)))))) (fun _ _ _ _ _ => pv 10))
      (pss_nil)))))))
      (pss_cons (ps_ret (pe_tup (pa_cons (pv 5) (pa_cons (pv 7) (pa_cons (pe_callTy call_tupG (by rfl) T.n_tuple (by decide +kernel) (pa_cons (pv 8) pa_nil)) pa_nil)))))
      (pss_nil)))))), ?_⟩
  rintro ⟨n, trace, b, s, most, _⟩ hpre B S0 Q hret
  show At _ _ _ _ [.im n, .im trace, .im b, .im s, .im most, .no, .no, .no, .no, .no, .no, .no]
  obtain ⟨n0, n1, tr, b0, b1, m0, m1⟩ := hpre
  have P0 : RdP n trace b most := ⟨n0, n1, tr, b0, b1, m0, m1⟩
  dsimp only at n0 n1 tr b0 b1 m0 m1
  refine qg_own 5 (el_lst (els_nil (α := (Int × (Tp Int)))) (by simp)) rfl fun found h_found => ?_
  refine q_dnew Int (i := 6) rfl ?_
  refine at_genO 6 rfl fun copied h_copied => ?_
  refine qg_set 7 (ev_int) rfl fun tick h_tick => ?_
  show At _ _ _ _ [.im n, .im trace, .im b, .im s, .im most, .ow found, .ow copied, .im tick, .no, .no, .no, .no]
  refine qg_set 8 (EvL.ev (el_rng1 (ev_var (i := 0) rfl) (by exact RgOk.of_le (by omega) (by omega) (by omega) (by omega)))) rfl fun due h_due => ?_
  refine qg_whl (fun st_ : (List (Int × (Tp Int))) × (Dct Int) × Int × (List Int) => [.im n, .im trace, .im b, .im s, .im most, .ow st_.1, .ow st_.2.1, .im st_.2.2.1, .im st_.2.2.2, .no, .no, .no]) (rdC most s) (rdB n trace b) rdK (found, copied, tick, due) most.toNat (roundsM n trace b s most) (RdI n b most) (fun st => (most - (st.1.length : Int)).toNat) (.k (.k (.k (.k (.k (.k (.k (.k (.k (.d (.d (.d .n)))))))))))) (by subst_vars; unfold roundsM; rfl) (by subst_vars; exact RdI.start n0) (by subst_vars; show (most - ((0 : Nat) : Int)).toNat ≤ most.toNat; omega) (fun st _ hm => by cases hc : rdC most s st with | false => rfl | true => (have := rdC_lt hc; omega)) (fun s0 hI0 => ?_) (fun fu0 s0 hI0 hm0 hc0 hR0 Sb0 rb0 => ?_) (fun s0 hR0 hI0 hc0 Sb0 rb0 => ?_)
  ·
    obtain ⟨found_c, copied_c, tick_c, due_c⟩ := s0
    show EvT _ _ [.im n, .im trace, .im b, .im s, .im most, .ow found_c, .ow copied_c, .im tick_c, .im due_c, .no, .no, .no] _ [.im n, .im trace, .im b, .im s, .im most, .ow found_c, .ow copied_c, .im tick_c, .im due_c, .no, .no, .no]
    exact et_and (et_test (ev_neD (ev_var (i := 8) rfl) (EvL.ev (el_lst (els_nil (α := Int)) (by simp))) (by decide))) (fun hc => et_and (et_test (ev_b0 (ev_len (ec_own (i := 5) rfl)) (ev_var (i := 4) rfl))) (fun hc => et_or (et_test (ev_eqC (ec_own (i := 5) rfl) (EvL.c (el_lst (els_nil (α := (Int × (Tp Int)))) (by simp))) (by decide))) (fun hc => et_test (ev_b0 (ev_len (EvX.c (ev_var (i := 8) rfl))) (ev_var (i := 3) rfl)))))
  ·
    obtain ⟨found_b, copied_b, tick_b, due_b⟩ := s0
    show At _ _ _ _ [.im n, .im trace, .im b, .im s, .im most, .ow found_b, .ow copied_b, .im tick_b, .im due_b, .no, .no, .no]
    have hlt := rdC_lt hc0
    dsimp only at hlt
    have hlen := hI0.len
    have ht0 := hI0.t0
    have ht1 := hI0.t1
    dsimp only at hlen ht0 ht1
    refine qg_app 5 rfl (ev_pair (ev_var (i := 7) rfl) (ev_tup (EvX.c (ev_var (i := 8) rfl)))) rfl (by exact Nat.lt_of_lt_of_le (by omega : _ < 1000) (by decide)) fun found1 h_found1 => ?_
    refine qg_fold (fun st_ : (Dct Int) => [.im n, .im trace, .im b, .im s, .im most, .ow found1, .ow st_, .im tick_b, .im due_b, .no, .no, .no]) (rdCop b tick_b) copied_b (it_enum (ev_var (i := 8) rfl)) (.k (.k (.k (.k (.k (.k (.k (.k (.k (.d (.d (.d .n)))))))))))) (fun pre1 it post1 s1 ex1 hs1 Sb1 rb1 => ⟨_, _, tg_pair (tg_name rfl) (tg_name rfl), ?_⟩) (fun s1 hs1 => ?_)
    ·
      show At _ _ _ _ [.im n, .im trace, .im b, .im s, .im most, .ow found1, .ow s1, .im tick_b, .im due_b, .im it.1, .im it.2, .no]
      refine qg_dput 6 (ev_i0 (ev_var (i := 7) rfl) (ev_iC (ev_var (i := 9) rfl) (ev_var (i := 2) rfl) (by exact ⟨by omega, by omega⟩))) (ev_var (i := 10) rfl) rfl rfl (by rw [hs1]; exact (hI0.copOk n1 fun p hp => by rw [← ex1]; exact List.mem_append_left _ hp).small) fun copied1 h_copied1 => ?_
      exact q_next (at_mid (.k (.k (.k (.k (.k (.k (.k (.k (.k (.d (.d (.d .n)))))))))))) (by subst_vars; rfl))
    ·
      show At _ _ _ _ [.im n, .im trace, .im b, .im s, .im most, .ow found1, .ow s1, .im tick_b, .im due_b, .no, .no, .no]
      refine qg_set 7 (ev_i0 (ev_var (i := 7) rfl) (ev_iC (ev_i0 (ev_i0 (ev_len (EvX.c (ev_var (i := 8) rfl))) (ev_var (i := 2) rfl)) (ev_int)) (ev_var (i := 2) rfl) (by exact ⟨by omega, by omega⟩))) rfl fun tick1 h_tick1 => ?_
      refine qg_set 11 (ev_call (ea_cons (ev_var (i := 1) rfl) (ea_cons (ev_int) (ea_cons (ev_var (i := 7) rfl) (ea_nil)))) (by have := div_bound (l := (due_b.length : Int)) b0 (by omega); exact ⟨tr, by simp, by simp, by dsimp only; omega, by dsimp only; omega⟩)) rfl fun last h_last => ?_
      show At _ _ _ _ [.im n, .im trace, .im b, .im s, .im most, .ow found1, .ow s1, .im tick1, .im due_b, .no, .no, .im last]
      refine qg_set 8 (EvL.ev (el_lcF _ _ (it_rng1 (ev_var (i := 0) rfl) (by omega)) (by rw [len_rng]; omega) rfl (fun x hm_x => ⟨_, _, tg_name rfl, (by decide), et_and (et_B (ev_din (ev_var (i := 10) rfl) (EvX.d (ev_var (i := 11) rfl)))) (fun hc => et_test (ev_b0 (ev_dget (EvX.d (ev_var (i := 11) rfl)) (ev_var (i := 10) rfl) (by exact hc)) (ev_dget (ed_own (i := 6) rfl) (ev_var (i := 10) rfl) (by have hm := mem_rng.mp hm_x; subst hs1; exact hI0.covered hm.1 hm.2)))), fun hf_x => ev_var (i := 10) rfl⟩))) rfl fun due1 h_due1 => ?_
      exact q_next (at_mid (.k (.k (.k (.k (.k (.k (.k (.k (.k (.d (.d (.d .n)))))))))))) (whN (found_b, copied_b, tick_b, due_b) (found1, s1, tick1, due1) (by rfl) hR0 hc0 (by subst_vars; rfl) (by subst_vars; exact hI0.next P0) hm0 (by subst_vars; rw [List.length_append]; simp only [List.length_singleton]; omega)))
  ·
    obtain ⟨found_e, copied_e, tick_e, due_e⟩ := s0
    show At _ _ _ _ [.im n, .im trace, .im b, .im s, .im most, .ow found_e, .ow copied_e, .im tick_e, .im due_e, .no, .no, .no]
    refine at_relF (i := 5) rfl ?_
    exact q_ret (ev_t3F (ev_var (i := 5) rfl) (EvX.toF B (ev_var (i := 7) rfl)) (EvX.toF B (ev_tup (EvX.c (ev_var (i := 8) rfl))))) ((hret _ _ (by exact hR0.symm)).reb rb0)
end
theorem sc_left_by : FnScope ["n", "trace", "plan", "copies", "stop", "copied", "tick", "sheet", "last"] ["n", "trace", "plan"] (defScope s_left_by) := ⟨rfl, rfl, rfl, by decide +kernel, rfl, by decide +kernel, by decide +kernel⟩
section
variable {P : Program} {w : World} {K : Fg} {mg : Str → Option Value} {base : Heap}
set_option maxHeartbeats 4000000 in
theorem ok_left_by (T : Tx K mg) (c_written_in : Cal P w K mg base 1 "written_in" ["trace", "start", "stop"] (spF K (fun a : (List (Tp Int)) × Int × Int × Unit => writtenIn a.1 a.2.1 a.2.2.1) (fun a => TrOk a.1 ∧ 0 ≤ a.2.1 ∧ a.2.1 ≤ 100000 ∧ -1000 ≤ a.2.2.1 ∧ a.2.2.1 ≤ 1000000000000000000000000000000000000000000000000000000000000))) : Cal P w K mg base 2 "left_by" ["n", "trace", "plan"] (spN K (fun a : Int × (List (Tp Int)) × ((List (Int × Int)) × Int) × Unit => leftM a.1 a.2.1 a.2.2.1) (fun a => 0 ≤ a.1 ∧ a.1 ≤ 1000 ∧ TrOk a.2.1 ∧ a.2.2.1.1.length ≤ 1000 ∧ -1000 ≤ a.2.2.1.2 ∧ a.2.2.1.2 ≤ 1000000000000000000000000000000000000000000000000000000000000)) := by
  have nd := sc_left_by.nd
  refine def_spN (k := 1) T.d_left_by sc_left_by rfl fun fa cdv A outer s H E hr => ?_
  refine ⟨_, pss_cons (ps_asg (pv 2) (pg_tup rfl (pgs_cons (pg_name (i := 3) nd rfl (.inl rfl)) (pgs_cons (pg_name (i := 4) nd rfl (.inl rfl)) (pgs_nil)))))
      (pss_cons (ps_set (i := 5) nd rfl (.inr rfl) pe_dnewK)
      (pss_cons (ps_for PassesOwn.never rfl (pi_list (pv 3)) (pg_tup rfl (pgs_cons (pg_name (i := 6) nd rfl (.inl rfl)) (pgs_cons (pg_name (i := 7) nd rfl (.inl rfl)) (pgs_nil))))
      (Evl.pss_cut (ps_if (pt_chain op_le op_lt (pe_int) (pv 6) (pv 4)) (pss_cons (ps_dput (hu_of hr) (pv 5) (pv 7) (pe_callB (call_maxG rfl) (by rfl) T.n_max (by decide +kernel) (pa_cons (pv 6) (pa_cons (pe_dget2 (hu_of hr) (pv 5) (pv 7) (pv 6) ⟨rfl, rfl, rfl, rfl⟩) pa_nil))) rfl)
      (pss_nil)) (pss_nil))
      (pss_nil)))
      (pss_cons (ps_set (i := 8) nd rfl (.inr rfl) (pe_cal c_written_in hr (by decide) (by rfl) (pa_cons (pv 1) (pa_cons (pe_int) (pa_cons (pv 4) pa_nil)))))
      (pss_cons (ps_ret (pe_lc (own := [("sheet", 7)]) (g := gName 7) (by rfl) nd (pi_range1 (by rfl) T.n_range (pa_cons (pv 0) pa_nil)) (blkOk_by (N := ["n", "trace", "plan", "copies", "stop", "copied", "tick", "sheet", "last"]) (sc := defScope s_left_by) (by decide +kernel)) (fun _ _ _ _ _ => pg_name (i := 7) nd rfl (.inl rfl) (.inr rfl)) (fun _ _ _ _ _ => pts_one (PW.pt (pw_or (pt_cmp (pc_dnotin (hu_of hr) (pv 7) (pv 5))) (pw_or1 (pt_cmpR op_ge (pe_dget2 (hu_of hr) (pv 8) (pv 7) (pe_un un_neg (pe_int)) ⟨rfl, rfl, rfl, rfl⟩) (pe_dget (hu_of hr) (pv 5) (pv 7) (fun _ _ => rfl)) (nomark _)))))) (fun _ _ _ _ _ => pv 7)))
      (pss_nil))))), ?_⟩
  rintro ⟨n, trace, plan, _⟩ hpre B S0 Q hret
  show At _ _ _ _ [.im n, .im trace, .im plan, .no, .no, .no, .no, .no, .no]
  obtain ⟨n0, n1, tr, c0, p0, p1⟩ := hpre
  dsimp only at n0 n1 tr c0 p0 p1
  refine qg_pair 3 4 (ev_var (i := 2) rfl) rfl rfl fun copies stop h_copies h_stop => ?_
  rw [← h_copies] at c0
  rw [← h_stop] at p0 p1
  refine q_dnew Int (i := 5) rfl ?_
  refine at_genO 5 rfl fun copied h_copied => ?_
  refine qg_fold (fun st_ : (Dct Int) => [.im n, .im trace, .im plan, .im copies, .im stop, .ow st_, .no, .no, .no]) (copStep stop) copied (it_list (ev_var (i := 3) rfl)) (.k (.k (.k (.k (.k (.k (.d (.d (.d .n))))))))) (fun pre0 it post0 s0 ex0 hs0 Sb0 rb0 => ⟨_, _, tg_pair (tg_name rfl) (tg_name rfl), ?_⟩) (fun s0 hs0 => ?_)
  ·
    show At _ _ _ _ [.im n, .im trace, .im plan, .im copies, .im stop, .ow s0, .im it.1, .im it.2, .no]
    have hlen := cop_len stop pre0 copied
    rw [← hs0, h_copied] at hlen
    have hpl : pre0.length ≤ copies.length := by rw [← ex0]; simp
    refine q_cut1 [.im n, .im trace, .im plan, .im copies, .im stop, .ow (copStep stop s0 it), .im it.1, .im it.2, .no] ?_ ?_
    · refine q_ifc (et_test (ev_chain (ev_int) (ev_var (i := 6) rfl) (ev_var (i := 4) rfl))) (fun hb0 => ?_) (fun hb0 => ?_)
      ·
        refine qg_dput 5 (ev_max (ev_var (i := 6) rfl) (ev_dget2 (ed_own (i := 5) rfl) (ev_var (i := 7) rfl) (ev_var (i := 6) rfl))) (ev_var (i := 7) rfl) rfl rfl (by have : (Dct.emp : Dct Int).l.length = 0 := rfl; exact lt_line (by omega)) fun copied1 h_copied1 => ?_
        refine q_next ?_
        exact at_mid (.k (.k (.k (.k (.k (.k (.k (.k (.d .n))))))))) (by unfold copStep inT; rw [if_pos hb0]; subst_vars; rfl)
      ·
        refine q_next ?_
        exact at_mid (.k (.k (.k (.k (.k (.k (.k (.k (.d .n))))))))) (by unfold copStep inT; rw [if_neg (by rw [hb0]; decide)])
    refine at_genO 5 rfl fun copied2 h_copied2 => ?_
    exact q_next (at_mid (.k (.k (.k (.k (.k (.k (.d (.d (.d .n))))))))) (by subst_vars; rfl))
  ·
    show At _ _ _ _ [.im n, .im trace, .im plan, .im copies, .im stop, .ow s0, .no, .no, .no]
    have hcm : s0 = copM copies stop := by rw [hs0, h_copied]; unfold copM; rfl
    show At _ _ _ _ [.im n, .im trace, .im plan, .im copies, .im stop, .ow s0, .no, .no, .no]
    refine qg_set 8 (ev_call (ea_cons (ev_var (i := 1) rfl) (ea_cons (ev_int) (ea_cons (ev_var (i := 4) rfl) (ea_nil)))) (by ((try dsimp only) <;> (repeat' (first | assumption | omega | refine And.intro ?_ ?_)) <;> first | trivial | assumption | omega | decide | simp))) rfl fun last h_last => ?_
    refine at_relD (i := 5) rfl ?_
    exact q_retLF (el_lcF _ _ (it_rng1 (ev_var (i := 0) rfl) (by first | omega | (dsimp only; omega))) (by first | omega | (dsimp only; omega) | (rw [len_rng]; omega) | (rw [len_rng]; exact le_line (by omega))) rfl (fun x hm_x => ⟨_, _, tg_name rfl, (by decide), et_or (et_B (ev_dnotin (ev_var (i := 7) rfl) (EvX.d (ev_var (i := 5) rfl)))) (fun hc => et_test (ev_b0 (ev_dget2 (EvX.d (ev_var (i := 8) rfl)) (ev_var (i := 7) rfl) (ev_neg (ev_int))) (ev_dget (EvX.d (ev_var (i := 5) rfl)) (ev_var (i := 7) rfl) (by simpa using hc)))), fun hf_x => ev_var (i := 7) rfl⟩)) (hret _ _ (by unfold leftM; rw [← h_copies, ← h_stop, h_last, hcm]; dsimp only; rw [List.map_id']))
end
theorem sc_is_plan : FnScope ["n", "trace", "b", "s", "plan", "copies", "stop", "many", "tick", "sheet"] ["n", "trace", "b", "s", "plan"] (defScope s_is_plan) := ⟨rfl, rfl, rfl, by decide +kernel, rfl, by decide +kernel, by decide +kernel⟩
section
variable {P : Program} {w : World} {K : Fg} {mg : Str → Option Value} {base : Heap}
set_option maxHeartbeats 4000000 in
theorem ok_is_plan (T : Tx K mg) (c_left_by : Cal P w K mg base 2 "left_by" ["n", "trace", "plan"] (spN K (fun a : Int × (List (Tp Int)) × ((List (Int × Int)) × Int) × Unit => leftM a.1 a.2.1 a.2.2.1) (fun a => 0 ≤ a.1 ∧ a.1 ≤ 1000 ∧ TrOk a.2.1 ∧ a.2.2.1.1.length ≤ 1000 ∧ -1000 ≤ a.2.2.1.2 ∧ a.2.2.1.2 ≤ 1000000000000000000000000000000000000000000000000000000000000))) : Cal P w K mg base 3 "is_plan" ["n", "trace", "b", "s", "plan"] (spF K (fun a : Int × (List (Tp Int)) × Int × Int × ((List (Int × Int)) × Int) × Unit => isPlanM a.1 a.2.1 a.2.2.1 a.2.2.2.1 a.2.2.2.2.1) (fun a => 0 ≤ a.1 ∧ a.1 ≤ 1000 ∧ TrOk a.2.1 ∧ (a.2.2.2.2.1.1.length ≤ 300 ∧ a.2.2.2.2.1.1.Pairwise lt2) ∧ -1000 ≤ a.2.2.2.2.1.2 ∧ a.2.2.2.2.1.2 ≤ 1000000000000000000000000000000000000000000000000000000000000)) := by
  have nd := sc_is_plan.nd
  refine def_spF (k := 2) T.d_is_plan sc_is_plan rfl fun fa cdv A outer s H E hr => ?_
  refine ⟨_, pss_cons (ps_asg (pv 4) (pg_tup rfl (pgs_cons (pg_name (i := 5) nd rfl (.inl rfl)) (pgs_cons (pg_name (i := 6) nd rfl (.inl rfl)) (pgs_nil)))))
      (pss_cons (ps_if (PW.pt (pw_or (pt_cmpR op_lt (pv 6) (pe_int) (nomark _)) (pw_or1 (pt_cmpR (op_neD hr.units) (pv 5) (GB.pe_sortSetB rfl hr.units (by rfl) T.n_sorted (by rfl) T.n_set (pv 5)) (nomark _))))) (pss_cons (ps_ret (pe_bl))
      (pss_nil)) (pss_nil))
      (pss_cons (ps_set (i := 7) nd rfl (.inl rfl) pe_dnewK)
      (pss_cons (ps_for PassesOwn.never rfl (pi_list (pv 5)) (pg_tup rfl (pgs_cons (pg_name (i := 8) nd rfl (.inl rfl)) (pgs_cons (pg_name (i := 9) nd rfl (.inl rfl)) (pgs_nil))))
      (pss_cons (ps_dput (hu_of hr) (pv 7) (pv 8) (pe_op op_add (pe_dget2 (hu_of hr) (pv 7) (pv 8) (pe_int) ⟨rfl, rfl, rfl, rfl⟩) (pe_int)) rfl)
      (pss_cons (ps_if (PW.pt (pw_or (pt_not (pt_chain op_le op_lt (pe_int) (pv 8) (pv 6))) (pw_or (pt_not (pt_chain op_le op_lt (pe_int) (pv 9) (pv 0))) (pw_or1 (pt_cmpR op_gt (pe_dget (hu_of hr) (pv 7) (pv 8) (fun _ _ => rfl)) (pv 2) (nomark _)))))) (pss_cons (ps_ret (pe_bl))
      (pss_nil)) (pss_nil))
      (pss_nil))))
      (pss_cons (ps_ret (pe_cmpR op_le (pe_callB call_lenG (by rfl) T.n_len (by decide +kernel) (pa_cons (pe_cal c_left_by hr (by decide) (by rfl) (pa_cons (pv 0) (pa_cons (pv 1) (pa_cons (pv 4) pa_nil)))) pa_nil)) (pv 3) (nomark _)))
      (pss_nil))))), ?_⟩
  rintro ⟨n, trace, b, s, plan, _⟩ hpre B S0 Q hret
  show At _ _ _ _ [.im n, .im trace, .im b, .im s, .im plan, .no, .no, .no, .no, .no]
  obtain ⟨n0, n1, tr, ⟨c0, cp0⟩, p0, p1⟩ := hpre
  dsimp only at n0 n1 tr c0 cp0 p0 p1
  refine qg_pair 5 6 (ev_var (i := 4) rfl) rfl rfl fun copies stop h_copies h_stop => ?_
  have hc0 : copies.length ≤ 300 := by rw [h_copies]; exact c0
  have hcp : copies.Pairwise lt2 := by rw [h_copies]; exact cp0
  have hus : usrt2 plan.1 = plan.1 := (usrt2_eq cp0 fun _ => Iff.rfl).symm
  refine q_if (et_or (et_test (ev_b0 (ev_var (i := 6) rfl) (ev_int))) (fun hc => et_test (ev_neD (ev_var (i := 5) rfl) (EvL.ev (el_sortSetB (EvX.c (ev_var (i := 5) rfl)) (by exact hc0) (by exact hcp))) (by decide)))) (fun hb0 => ?_) (fun hb0 => ?_)
  ·
    exact q_ret (ev_bl) (hret _ _ (by
dsimp only; rw [h_copies, h_stop] at hb0; rcases Bool.or_eq_true _ _ ▸ hb0 with q | q
· exact (isPlan_no0 (by have := of_decide_eq_true q; omega)).symm
· exact (isPlan_no1 (by simpa using q)).symm))
  ·
    refine q_next ?_
    refine q_dnew Int (i := 7) rfl ?_
    refine at_genO 7 rfl fun many h_many => ?_
    refine qg_inv (fun st_ : (Dct Int) => [.im n, .im trace, .im b, .im s, .im plan, .im copies, .im stop, .ow st_, .no, .no]) (fun pre d => IpI n b stop pre d) many (it_list (ev_var (i := 5) rfl)) (.k (.k (.k (.k (.k (.k (.k (.k (.d (.d .n)))))))))) (by rw [h_many]; exact IpI.start n b stop) (fun pre0 it post0 s0 ex0 hs0 Sb0 rb0 => ⟨_, _, tg_pair (tg_name rfl) (tg_name rfl), ?_⟩) (fun s0 hs0 => ?_)
    ·
      show At _ _ _ _ [.im n, .im trace, .im b, .im s, .im plan, .im copies, .im stop, .ow s0, .im it.1, .im it.2]
      have hdl := hs0.len
      have hpl : pre0.length < copies.length := by rw [← ex0]; simp
      have exc : pre0 ++ it :: post0 = plan.1 := by rw [ex0, h_copies]
      refine qg_dput 7 (ev_i0 (ev_dget2 (ed_own (i := 7) rfl) (ev_var (i := 8) rfl) (ev_int)) (ev_int)) (ev_var (i := 8) rfl) rfl rfl (by exact lt_line (by omega)) fun many1 h_many1 => ?_
      show At _ _ _ _ [.im n, .im trace, .im b, .im s, .im plan, .im copies, .im stop, .ow many1, .im it.1, .im it.2]
      refine q_if (et_or (et_not (et_test (ev_chain (ev_int) (ev_var (i := 8) rfl) (ev_var (i := 6) rfl)))) (fun hc => et_or (et_not (et_test (ev_chain (ev_int) (ev_var (i := 9) rfl) (ev_var (i := 0) rfl)))) (fun hc => et_test (ev_b0 (ev_dget (ed_own (i := 7) rfl) (ev_var (i := 8) rfl) (by rw [h_many1, Dct.get?_put, if_pos rfl]; rfl)) (ev_var (i := 2) rfl))))) (fun hb1 => ?_) (fun hb1 => ?_)
      ·
        exact q_ret (ev_bl) ((hret _ _ (by dsimp only; rw [h_many1, hs0.dix, h_stop] at hb1; exact (IpI.bad exc hb1).symm)).reb rb0)
      ·
        refine q_next ?_
        exact q_next (at_mid (.k (.k (.k (.k (.k (.k (.k (.k (.d (.d .n)))))))))) ⟨many1, by rfl, by rw [h_many1]; rw [h_many1, hs0.dix] at hb1; obtain ⟨g1, g2⟩ := Bool.or_eq_false_iff.mp hb1; obtain ⟨g3, g4⟩ := Bool.or_eq_false_iff.mp g2; exact hs0.next (not_f g1) (not_f g3) (by have := of_decide_eq_false g4; omega)⟩)
    ·
      show At _ _ _ _ [.im n, .im trace, .im b, .im s, .im plan, .im copies, .im stop, .ow s0, .no, .no]
      exact q_ret (ev_b0 (ev_len (EvX.c (ev_callN (ea_cons (ev_var (i := 0) rfl) (ea_cons (ev_var (i := 1) rfl) (ea_cons (ev_var (i := 4) rfl) (ea_nil)))) (by exact ⟨n0, n1, tr, show plan.1.length ≤ 1000 by omega, p0, p1⟩)))) (ev_var (i := 3) rfl)) (hret _ _ (by dsimp only; rw [h_stop, h_copies] at hs0; rw [h_copies, h_stop] at hb0; obtain ⟨g1, g2⟩ := Bool.or_eq_false_iff.mp hb0; exact (isPlan_of (plan := plan) (by have := of_decide_eq_false g1; omega) cp0 hs0.all).symm))
end
theorem sc_carried_by : FnScope ["n", "trace", "plan"] ["n", "trace", "plan"] (defScope s_carried_by) := ⟨rfl, rfl, rfl, by decide +kernel, rfl, by decide +kernel, by decide +kernel⟩
section
variable {P : Program} {w : World} {K : Fg} {mg : Str → Option Value} {base : Heap}
set_option maxHeartbeats 4000000 in
theorem ok_carried_by (T : Tx K mg) (c_left_by : Cal P w K mg base 2 "left_by" ["n", "trace", "plan"] (spN K (fun a : Int × (List (Tp Int)) × ((List (Int × Int)) × Int) × Unit => leftM a.1 a.2.1 a.2.2.1) (fun a => 0 ≤ a.1 ∧ a.1 ≤ 1000 ∧ TrOk a.2.1 ∧ a.2.2.1.1.length ≤ 1000 ∧ -1000 ≤ a.2.2.1.2 ∧ a.2.2.1.2 ≤ 1000000000000000000000000000000000000000000000000000000000000))) : Cal P w K mg base 3 "carried_by" ["n", "trace", "plan"] (spF K (fun a : Int × (List (Tp Int)) × ((List (Int × Int)) × Int) × Unit => ((a.2.2.1.1.length : Int) + ((leftM a.1 a.2.1 a.2.2.1).length : Int))) (fun a => 0 ≤ a.1 ∧ a.1 ≤ 1000 ∧ TrOk a.2.1 ∧ a.2.2.1.1.length ≤ 1000 ∧ -1000 ≤ a.2.2.1.2 ∧ a.2.2.1.2 ≤ 1000000000000000000000000000000000000000000000000000000000000)) := by
  have nd := sc_carried_by.nd
  refine def_spF (k := 2) T.d_carried_by sc_carried_by rfl fun fa cdv A outer s H E hr => ?_
  refine ⟨_, pss_cons (ps_ret (pe_op op_add (pe_callB call_lenG (by rfl) T.n_len (by decide +kernel) (pa_cons (pe_ix (r := rIxT K) ix_tup (pv 2) pe_int (fun _ _ => rfl)) pa_nil)) (pe_callB call_lenG (by rfl) T.n_len (by decide +kernel) (pa_cons (pe_cal c_left_by hr (by decide) (by rfl) (pa_cons (pv 0) (pa_cons (pv 1) (pa_cons (pv 2) pa_nil)))) pa_nil))))
      (pss_nil), ?_⟩
  rintro ⟨n, trace, plan, _⟩ hpre B S0 Q hret
  show At _ _ _ _ [.im n, .im trace, .im plan]
  obtain ⟨n0, n1, tr, c0, p0, p1⟩ := hpre
  dsimp only at n0 n1 tr c0 p0 p1
  exact q_ret (ev_i0 (ev_len (EvX.c (ev_fst (ev_var (i := 2) rfl)))) (ev_len (EvX.c (ev_callN (ea_cons (ev_var (i := 0) rfl) (ea_cons (ev_var (i := 1) rfl) (ea_cons (ev_var (i := 2) rfl) (ea_nil)))) (by exact ⟨n0, n1, tr, c0, p0, p1⟩))))) (hret _ _ (by subst_vars; rfl))
end
theorem sc_last_writings : FnScope ["n", "trace", "stop", "last", "sheet"] ["n", "trace", "stop"] (defScope s_last_writings) := ⟨rfl, rfl, rfl, by decide +kernel, rfl, by decide +kernel, by decide +kernel⟩
section
variable {P : Program} {w : World} {K : Fg} {mg : Str → Option Value} {base : Heap}
set_option maxHeartbeats 4000000 in
theorem ok_last_writings (T : Tx K mg) (c_written_in : Cal P w K mg base 1 "written_in" ["trace", "start", "stop"] (spF K (fun a : (List (Tp Int)) × Int × Int × Unit => writtenIn a.1 a.2.1 a.2.2.1) (fun a => TrOk a.1 ∧ 0 ≤ a.2.1 ∧ a.2.1 ≤ 100000 ∧ -1000 ≤ a.2.2.1 ∧ a.2.2.1 ≤ 1000000000000000000000000000000000000000000000000000000000000))) : Cal P w K mg base 2 "last_writings" ["n", "trace", "stop"] (spF K (fun a : Int × (List (Tp Int)) × Int × Unit => lastsM a.1 a.2.1 a.2.2.1) (fun a => 0 ≤ a.1 ∧ a.1 ≤ 1000 ∧ TrOk a.2.1 ∧ 0 ≤ a.2.2.1 ∧ a.2.2.1 ≤ 100000)) := by
  have nd := sc_last_writings.nd
  refine def_spF (k := 1) T.d_last_writings sc_last_writings rfl fun fa cdv A outer s H E hr => ?_
  refine ⟨_, pss_cons (ps_set (i := 3) nd rfl (.inr rfl) (pe_cal c_written_in hr (by decide) (by rfl) (pa_cons (pv 1) (pa_cons (pe_int) (pa_cons (pv 2) pa_nil)))))
      (pss_cons (ps_ret (pe_lc (own := [("sheet", 4)]) (g := gName 4) (by rfl) nd (pi_range1 (by rfl) T.n_range (pa_cons (pv 0) pa_nil)) (blkOk_by (N := ["n", "trace", "stop", "last", "sheet"]) (sc := defScope s_last_writings) (by decide +kernel)) (fun _ _ _ _ _ => pg_name (i := 4) nd rfl (.inl rfl) (.inr rfl)) (fun _ _ _ _ _ => pts_nil) (fun _ _ _ _ _ => pe_dget2 (hu_of hr) (pv 3) (pv 4) (pe_un un_neg (pe_int)) ⟨rfl, rfl, rfl, rfl⟩)))
      (pss_nil)), ?_⟩
  rintro ⟨n, trace, stop, _⟩ hpre B S0 Q hret
  show At _ _ _ _ [.im n, .im trace, .im stop, .no, .no]
  obtain ⟨n0, n1, tr, s0, s1⟩ := hpre
  dsimp only at n0 n1 tr s0 s1
  refine qg_set 3 (ev_call (ea_cons (ev_var (i := 1) rfl) (ea_cons (ev_int) (ea_cons (ev_var (i := 2) rfl) (ea_nil)))) (by exact ⟨tr, by simp, by simp, by dsimp only; omega, by dsimp only; omega⟩)) rfl fun last h_last => ?_
  exact q_ret (EvL.ev (el_lcM _ (it_rng1 (ev_var (i := 0) rfl) (by omega)) (by rw [len_rng]; omega) rfl (fun x hm_x => ⟨_, _, tg_name rfl, (by decide), ev_dget2 (EvX.d (ev_var (i := 3) rfl)) (ev_var (i := 4) rfl) (ev_neg (ev_int))⟩))) (hret _ _ (by subst_vars; exact lasts_ret))
end
theorem sc_lack : FnScope ["lasts", "b", "stop", "t", "last"] ["lasts", "b", "stop", "t"] (defScope s_lack) := ⟨rfl, rfl, rfl, by decide +kernel, rfl, by decide +kernel, by decide +kernel⟩
section
variable {P : Program} {w : World} {K : Fg} {mg : Str → Option Value} {base : Heap}
set_option maxHeartbeats 4000000 in
theorem ok_lack (T : Tx K mg)  : Cal P w K mg base 1 "lack" ["lasts", "b", "stop", "t"] (spF K (fun a : (List Int) × Int × Int × Int × Unit => lackM a.1 a.2.1 a.2.2.1 a.2.2.2.1) (fun a => a.1.length ≤ 1000000 ∧ 0 ≤ a.2.1 ∧ a.2.1 ≤ 1000)) := by
  have nd := sc_lack.nd
  refine def_spF (k := 0) T.d_lack sc_lack rfl fun fa cdv A outer s H E hr => ?_
  refine ⟨_, pss_cons (ps_ret (pe_op op_sub (pe_callB call_lenG (by rfl) T.n_len (by decide +kernel) (pa_cons (pe_lc (own := [("last", 4)]) (g := gName 4) (by rfl) nd (pi_list (pv 0)) (blkOk_by (N := ["lasts", "b", "stop", "t", "last"]) (sc := defScope s_lack) (by decide +kernel)) (fun _ _ _ _ _ => pg_name (i := 4) nd rfl (.inl rfl) (.inr rfl)) (fun _ _ _ _ _ => pts_one (pt_cmpR op_ge (pv 4) (pv 3) (nomark _))) (fun _ _ _ _ _ => pv 4)) pa_nil)) (pe_op op_mul (pv 1) (pe_op op_sub (pe_op op_sub (pv 2) (pv 3)) (pe_int)))))
      (pss_nil), ?_⟩
  rintro ⟨lasts, b, stop, t, _⟩ hpre B S0 Q hret
  show At _ _ _ _ [.im lasts, .im b, .im stop, .im t, .no]
  obtain ⟨l0, b0, b1⟩ := hpre
  dsimp only at l0 b0 b1
  exact q_ret (ev_i0 (ev_len (EvL.c (el_lcF _ _ (it_list (ev_var (i := 0) rfl)) (by exact l0) rfl (fun x hm_x => ⟨_, _, tg_name rfl, (by decide), et_test (ev_b0 (ev_var (i := 4) rfl) (ev_var (i := 3) rfl)), fun hf_x => ev_var (i := 4) rfl⟩)))) (ev_iC (ev_var (i := 1) rfl) (ev_i0 (ev_i0 (ev_var (i := 2) rfl) (ev_var (i := 3) rfl)) (ev_int)) (by exact .inl ⟨by omega, by omega⟩))) (hret _ _ (by exact lack_ret))
end
theorem sc_bars : FnScope ["n", "trace", "b", "s", "stop", "t"] ["n", "trace", "b", "s", "stop", "t"] (defScope s_bars) := ⟨rfl, rfl, rfl, by decide +kernel, rfl, by decide +kernel, by decide +kernel⟩
section
variable {P : Program} {w : World} {K : Fg} {mg : Str → Option Value} {base : Heap}
set_option maxHeartbeats 4000000 in
theorem ok_bars (T : Tx K mg) (c_lack : Cal P w K mg base 1 "lack" ["lasts", "b", "stop", "t"] (spF K (fun a : (List Int) × Int × Int × Int × Unit => lackM a.1 a.2.1 a.2.2.1 a.2.2.2.1) (fun a => a.1.length ≤ 1000000 ∧ 0 ≤ a.2.1 ∧ a.2.1 ≤ 1000))) (c_last_writings : Cal P w K mg base 2 "last_writings" ["n", "trace", "stop"] (spF K (fun a : Int × (List (Tp Int)) × Int × Unit => lastsM a.1 a.2.1 a.2.2.1) (fun a => 0 ≤ a.1 ∧ a.1 ≤ 1000 ∧ TrOk a.2.1 ∧ 0 ≤ a.2.2.1 ∧ a.2.2.1 ≤ 100000))) : Cal P w K mg base 3 "bars" ["n", "trace", "b", "s", "stop", "t"] (spF K (fun a : Int × (List (Tp Int)) × Int × Int × Int × Int × Unit => barsM a.1 a.2.1 a.2.2.1 a.2.2.2.1 a.2.2.2.2.1 a.2.2.2.2.2.1) (fun a => -5 ≤ a.2.2.2.2.1 ∧ a.1 ≤ 1000 ∧ 0 ≤ a.1 ∧ TrOk a.2.1 ∧ 0 ≤ a.2.2.1 ∧ a.2.2.1 ≤ 1000 ∧ a.2.2.2.2.1 ≤ 100000)) := by
  have nd := sc_bars.nd
  refine def_spF (k := 2) T.d_bars sc_bars rfl fun fa cdv A outer s H E hr => ?_
  refine ⟨_, pss_cons (ps_if (pt_not (pt_chain op_le op_lt (pe_un un_neg (pe_int)) (pv 5) (pv 4))) (pss_cons (ps_ret (pe_bl))
      (pss_nil)) (pss_nil))
      (pss_cons (ps_ret (pe_cmpR op_gt (pe_cal c_lack hr (by decide) (by rfl) (pa_cons (pe_cal c_last_writings hr (by decide) (by rfl) (pa_cons (pv 0) (pa_cons (pv 1) (pa_cons (pv 4) pa_nil)))) (pa_cons (pv 2) (pa_cons (pv 4) (pa_cons (pv 5) pa_nil))))) (pv 3) (nomark _)))
      (pss_nil)), ?_⟩
  rintro ⟨n, trace, b, s, stop, t, _⟩ hpre B S0 Q hret
  show At _ _ _ _ [.im n, .im trace, .im b, .im s, .im stop, .im t]
  obtain ⟨s0, n1, n0, tr, b0, b1, s1⟩ := hpre
  dsimp only at n0 n1 tr b0 b1 s0 s1
  refine q_if (et_not (et_test (ev_chain (ev_neg (ev_int)) (ev_var (i := 5) rfl) (ev_var (i := 4) rfl)))) (fun hb0 => ?_) (fun hb0 => ?_)
  ·
    exact q_ret (ev_bl) (hret _ _ (by dsimp only; unfold barsM; rw [if_neg (by simp at hb0; omega)]))
  ·
    refine q_next ?_
    exact q_ret (ev_b0 (ev_call (ea_cons (ev_call (ea_cons (ev_var (i := 0) rfl) (ea_cons (ev_var (i := 1) rfl) (ea_cons (ev_var (i := 4) rfl) (ea_nil)))) (by simp at hb0; exact ⟨n0, n1, tr, by dsimp only; omega, s1⟩)) (ea_cons (ev_var (i := 2) rfl) (ea_cons (ev_var (i := 4) rfl) (ea_cons (ev_var (i := 5) rfl) (ea_nil))))) (by exact ⟨by dsimp only; rw [len_lasts]; omega, b0, b1⟩)) (ev_var (i := 3) rfl)) (hret _ _ (by dsimp only; unfold barsM; rw [if_pos (by simp at hb0; omega)]))
end
theorem sc_least_left : FnScope ["n", "trace", "b", "stop", "lasts", "least", "found", "t"] ["n", "trace", "b", "stop"] (defScope s_least_left) := ⟨rfl, rfl, rfl, by decide +kernel, rfl, by decide +kernel, by decide +kernel⟩
section
variable {P : Program} {w : World} {K : Fg} {mg : Str → Option Value} {base : Heap}
set_option maxHeartbeats 4000000 in
theorem ok_least_left (T : Tx K mg) (c_lack : Cal P w K mg base 1 "lack" ["lasts", "b", "stop", "t"] (spF K (fun a : (List Int) × Int × Int × Int × Unit => lackM a.1 a.2.1 a.2.2.1 a.2.2.2.1) (fun a => a.1.length ≤ 1000000 ∧ 0 ≤ a.2.1 ∧ a.2.1 ≤ 1000))) (c_last_writings : Cal P w K mg base 2 "last_writings" ["n", "trace", "stop"] (spF K (fun a : Int × (List (Tp Int)) × Int × Unit => lastsM a.1 a.2.1 a.2.2.1) (fun a => 0 ≤ a.1 ∧ a.1 ≤ 1000 ∧ TrOk a.2.1 ∧ 0 ≤ a.2.2.1 ∧ a.2.2.1 ≤ 100000))) : Cal P w K mg base 3 "least_left" ["n", "trace", "b", "stop"] (spF K (fun a : Int × (List (Tp Int)) × Int × Int × Unit => leastM a.1 a.2.1 a.2.2.1 a.2.2.2.1) (fun a => 0 ≤ a.1 ∧ a.1 ≤ 60 ∧ TrOk a.2.1 ∧ 0 ≤ a.2.2.1 ∧ a.2.2.1 ≤ 1000 ∧ 0 ≤ a.2.2.2.1 ∧ a.2.2.2.1 ≤ 100000)) := by
  have nd := sc_least_left.nd
  refine def_spF (k := 2) T.d_least_left sc_least_left rfl fun fa cdv A outer s H E hr => ?_
  refine ⟨_, pss_cons (ps_set (i := 4) nd rfl (.inl rfl) (pe_cal c_last_writings hr (by decide) (by rfl) (pa_cons (pv 0) (pa_cons (pv 1) (pa_cons (pv 3) pa_nil)))))
      (pss_cons (ps_set (i := 5) nd rfl (.inl rfl) (pe_int))
      (pss_cons (ps_set (i := 6) nd rfl (.inl rfl) (pe_non))
      (pss_cons (ps_for PassesOwn.never rfl (pi_list (pe_sortSet rfl (by rfl) T.n_sorted (by rfl) T.n_set (pv 4))) (pg_name (i := 7) nd rfl (.inl rfl))
      (Evl.pss_cut (ps_if (PW.pt (pw_and (pt_cmpR op_lt (pv 7) (pv 3) (nomark _)) (pw_and1 (pt_cmpR op_gt (pe_cal c_lack hr (by decide) (by rfl) (pa_cons (pv 4) (pa_cons (pv 2) (pa_cons (pv 3) (pa_cons (pv 7) pa_nil))))) (pv 5) (nomark _))))) (pss_cons (ps_set (i := 5) nd rfl (.inl rfl) (pe_cal c_lack hr (by decide) (by rfl) (pa_cons (pv 4) (pa_cons (pv 2) (pa_cons (pv 3) (pa_cons (pv 7) pa_nil))))))
      (pss_cons (ps_set (i := 6) nd rfl (.inl rfl) (pv 7))
      (pss_nil))) (pss_nil))
      (pss_nil)))
      (pss_cons (ps_ret (pe_tup (pa_cons (pv 5) (pa_cons (pv 6) pa_nil))))
      (pss_nil))))), ?_⟩
  rintro ⟨n, trace, b, stop, _⟩ hpre B S0 Q hret
  show At _ _ _ _ [.im n, .im trace, .im b, .im stop, .no, .no, .no, .no]
  obtain ⟨n0, n1, tr, b0, b1, s0, s1⟩ := hpre
  dsimp only at n0 n1 tr b0 b1 s0 s1
  refine qg_set 4 (ev_call (ea_cons (ev_var (i := 0) rfl) (ea_cons (ev_var (i := 1) rfl) (ea_cons (ev_var (i := 3) rfl) (ea_nil)))) (by ((try dsimp only) <;> (repeat' (first | assumption | omega | refine And.intro ?_ ?_)) <;> first | trivial | assumption | omega | decide | simp))) rfl fun lasts h_lasts => ?_
  have hl : lasts.length ≤ 60 := by rw [h_lasts]; dsimp only; rw [len_lasts]; omega
  refine qg_set 5 (ev_int) rfl fun least h_least => ?_
  refine qg_set 6 (ev_none (α := Int)) rfl fun found h_found => ?_
  refine qg_fold (fun st_ : Int × (Option Int) => [.im n, .im trace, .im b, .im stop, .im lasts, .im st_.1, .im st_.2, .no]) (lsStep lasts b stop) (least, found) (it_list (EvL.ev (el_sortSet (EvX.c (ev_var (i := 4) rfl)) (by first | omega | (show (2 : Nat) < 64; decide))))) (.k (.k (.k (.k (.k (.k (.k (.d .n)))))))) (fun pre0 t post0 s0 ex0 hs0 Sb0 rb0 => ⟨_, _, tg_name rfl, ?_⟩) (fun s0 hs0 => ?_)
  ·
    obtain ⟨least_b, found_b⟩ := s0
    show At _ _ _ _ [.im n, .im trace, .im b, .im stop, .im lasts, .im least_b, .im found_b, .im t]
    refine q_cut1 [.im n, .im trace, .im b, .im stop, .im lasts, .im (lsStep lasts b stop (least_b, found_b) t).1, .im (lsStep lasts b stop (least_b, found_b) t).2, .im t] ?_ ?_
    · refine q_ifc (et_and (et_test (ev_b0 (ev_var (i := 7) rfl) (ev_var (i := 3) rfl))) (fun hc => et_test (ev_b0 (ev_call (ea_cons (ev_var (i := 4) rfl) (ea_cons (ev_var (i := 2) rfl) (ea_cons (ev_var (i := 3) rfl) (ea_cons (ev_var (i := 7) rfl) (ea_nil))))) (by ((try dsimp only) <;> (repeat' (first | assumption | omega | refine And.intro ?_ ?_)) <;> first | trivial | assumption | omega | decide | simp))) (ev_var (i := 5) rfl)))) (fun hb0 => ?_) (fun hb0 => ?_)
      ·
        refine qg_set 5 (ev_call (ea_cons (ev_var (i := 4) rfl) (ea_cons (ev_var (i := 2) rfl) (ea_cons (ev_var (i := 3) rfl) (ea_cons (ev_var (i := 7) rfl) (ea_nil))))) (by ((try dsimp only) <;> (repeat' (first | assumption | omega | refine And.intro ?_ ?_)) <;> first | trivial | assumption | omega | decide | simp))) rfl fun least1 h_least1 => ?_
        refine qg_set 6 (EvX.some (ev_var (i := 7) rfl)) rfl fun found1 h_found1 => ?_
        refine q_next ?_
        exact at_mid (.k (.k (.k (.k (.k (.k (.k (.k .n)))))))) (by unfold lsStep; rw [if_pos hb0]; subst_vars; rfl)
      ·
        refine q_next ?_
        exact at_mid (.k (.k (.k (.k (.k (.k (.k (.k .n)))))))) (by unfold lsStep; rw [if_neg (by rw [hb0]; decide)])
    refine at_gen 5 rfl fun least2 h_least2 => ?_
    refine at_gen 6 rfl fun found2 h_found2 => ?_
    exact q_next (at_mid (.k (.k (.k (.k (.k (.k (.k (.d .n)))))))) (by subst_vars; rfl))
  ·
    obtain ⟨least_e, found_e⟩ := s0
    show At _ _ _ _ [.im n, .im trace, .im b, .im stop, .im lasts, .im least_e, .im found_e, .no]
    exact q_ret (ev_pair (ev_var (i := 5) rfl) (ev_var (i := 6) rfl)) (hret _ _ (by subst_vars; rw [hs0]; unfold leastM lsFold; rfl))
end
theorem sc_law : FnScope ["script", "k", "spring", "n", "b", "s", "trail", "most", "told", "stop", "left", "copies", "beat", "sheets", "plan", "t", "sheet"] ["script"] (defScope s_law) := ⟨rfl, rfl, rfl, by decide +kernel, rfl, by decide +kernel, by decide +kernel⟩
section
variable {P : Program} {w : World} {K : Fg} {mg : Str → Option Value} {base : Heap}
set_option maxHeartbeats 4000000 in
theorem ok_law {fa : Addr} {fd : FuncData} (T : Tx K mg) (F : Fun K "law" "law" s_law fa fd) (c__law_cup : Cal P w K mg base 1 "_law_cup" ["spring", "many"] (spM K (fun (z : Spr) (a : Int × Unit) => lawCup z a.1) (fun z a => 0 < a.1 ∧ a.1 < 1073741824))) (c__law_sizes : Cal P w K mg base 2 "_law_sizes" ["spring"] (spRS K (fun (a : Unit) (y : (T3 Int Int Int)) => SzOk y) (fun a => True))) (c__law_spring : Cal P w K mg base 1 "_law_spring" ["script", "k"] (spSpring K)) (c__law_trace : Cal P w K mg base 2 "_law_trace" ["spring", "n", "most"] (spRS K (fun (a : Int × Int × Unit) (y : (List (Tp Int))) => TrLaw a.1 a.2.1 y) (fun a => 1 ≤ a.1 ∧ a.1 ≤ 12 ∧ 0 ≤ a.2.1 ∧ a.2.1 ≤ 1000))) (c_bars : Cal P w K mg base 3 "bars" ["n", "trace", "b", "s", "stop", "t"] (spF K (fun a : Int × (List (Tp Int)) × Int × Int × Int × Int × Unit => barsM a.1 a.2.1 a.2.2.1 a.2.2.2.1 a.2.2.2.2.1 a.2.2.2.2.2.1) (fun a => -5 ≤ a.2.2.2.2.1 ∧ a.1 ≤ 1000 ∧ 0 ≤ a.1 ∧ TrOk a.2.1 ∧ 0 ≤ a.2.2.1 ∧ a.2.2.1 ≤ 1000 ∧ a.2.2.2.2.1 ≤ 100000))) (c_carried_by : Cal P w K mg base 3 "carried_by" ["n", "trace", "plan"] (spF K (fun a : Int × (List (Tp Int)) × ((List (Int × Int)) × Int) × Unit => ((a.2.2.1.1.length : Int) + ((leftM a.1 a.2.1 a.2.2.1).length : Int))) (fun a => 0 ≤ a.1 ∧ a.1 ≤ 1000 ∧ TrOk a.2.1 ∧ a.2.2.1.1.length ≤ 1000 ∧ -1000 ≤ a.2.2.1.2 ∧ a.2.2.1.2 ≤ 1000000000000000000000000000000000000000000000000000000000000))) (c_is_plan : Cal P w K mg base 3 "is_plan" ["n", "trace", "b", "s", "plan"] (spF K (fun a : Int × (List (Tp Int)) × Int × Int × ((List (Int × Int)) × Int) × Unit => isPlanM a.1 a.2.1 a.2.2.1 a.2.2.2.1 a.2.2.2.2.1) (fun a => 0 ≤ a.1 ∧ a.1 ≤ 1000 ∧ TrOk a.2.1 ∧ (a.2.2.2.2.1.1.length ≤ 300 ∧ a.2.2.2.2.1.1.Pairwise lt2) ∧ -1000 ≤ a.2.2.2.2.1.2 ∧ a.2.2.2.2.1.2 ≤ 1000000000000000000000000000000000000000000000000000000000000))) (c_least_left : Cal P w K mg base 3 "least_left" ["n", "trace", "b", "stop"] (spF K (fun a : Int × (List (Tp Int)) × Int × Int × Unit => leastM a.1 a.2.1 a.2.2.1 a.2.2.2.1) (fun a => 0 ≤ a.1 ∧ a.1 ≤ 60 ∧ TrOk a.2.1 ∧ 0 ≤ a.2.2.1 ∧ a.2.2.1 ≤ 1000 ∧ 0 ≤ a.2.2.2.1 ∧ a.2.2.2.1 ≤ 100000))) (c_left_by : Cal P w K mg base 2 "left_by" ["n", "trace", "plan"] (spN K (fun a : Int × (List (Tp Int)) × ((List (Int × Int)) × Int) × Unit => leftM a.1 a.2.1 a.2.2.1) (fun a => 0 ≤ a.1 ∧ a.1 ≤ 1000 ∧ TrOk a.2.1 ∧ a.2.2.1.1.length ≤ 1000 ∧ -1000 ≤ a.2.2.1.2 ∧ a.2.2.1.2 ≤ 1000000000000000000000000000000000000000000000000000000000000))) (c_rounds : Cal P w K mg base 2 "rounds" ["n", "trace", "b", "s", "most"] (spN K (fun a : Int × (List (Tp Int)) × Int × Int × Int × Unit => roundsM a.1 a.2.1 a.2.2.1 a.2.2.2.1 a.2.2.2.2.1) (fun a => RdP a.1 a.2.1 a.2.2.1 a.2.2.2.2.1))) : FnOk P w K mg base CX0 5 fa fd ["script"] (spLaw K) := by
  have nd := sc_law.nd
  refine fn_law (k := 4) F sc_law fun cdv A outer s H E hr => ?_
  refine ⟨_, pss_cons (ps_for PassesOwn.never rfl (pi_range1 (by rfl) T.n_range (pa_cons (pe_callB (call_maxG rfl) (by rfl) T.n_max (by decide +kernel) (pa_cons (pe_int) (pa_cons (pe_callB (call_minG rfl) (by rfl) T.n_min (by decide +kernel) (pa_cons (pe_int) (pa_cons (pe_callB call_lenG (by rfl) T.n_len (by decide +kernel) (pa_cons (pv 0) pa_nil)) pa_nil))) pa_nil))) pa_nil)) (pg_name (i := 1) nd rfl (.inl rfl))
      (pss_cons (ps_set (i := 2) nd rfl (.inl rfl) (pe_cal c__law_spring hr (by decide) (by rfl) (pa_cons (pv 0) (pa_cons (pv 1) pa_nil))))
      (pss_cons (ps_asg (pe_cal c__law_sizes hr (by decide) (by rfl) (pa_cons (pv 2) pa_nil)) (pg_tup rfl (pgs_cons (pg_name (i := 3) nd rfl (.inr rfl)) (pgs_cons (pg_name (i := 4) nd rfl (.inr rfl)) (pgs_cons (pg_name (i := 5) nd rfl (.inl rfl)) (pgs_nil))))))
      (pss_cons (ps_set (i := 6) nd rfl (.inr rfl) (pe_cal c__law_trace hr (by decide) (by rfl) (pa_cons (pv 2) (pa_cons (pv 3) (pa_cons (pe_int) pa_nil)))))
      (pss_cons (ps_set (i := 7) nd rfl (.inl rfl) (pe_ix (r := rIxL K) ix_list (pe_lst (pa_cons (pe_int) (pa_cons (pe_int) (pa_cons (pe_int) (pa_cons (pe_int) pa_nil))))) (pe_cal c__law_cup hr (by decide) (by rfl) (pa_cons (pv 2) (pa_cons (pe_int) pa_nil))) (fun _ _ => rfl)))
      (pss_cons (ps_asg (pe_cal c_rounds hr (by decide) (by rfl) (pa_cons (pv 3) (pa_cons (pv 6) (pa_cons (pv 4) (pa_cons (pv 5) (pa_cons (pv 7) pa_nil)))))) (pg_tup rfl (pgs_cons (pg_name (i := 8) nd rfl (.inl rfl)) (pgs_cons (pg_name (i := 9) nd rfl (.inr rfl)) (pgs_cons (pg_name (i := 10) nd rfl (.inr rfl)) (pgs_nil))))))
      (pss_cons (ps_set (i := 11) nd rfl (.inl rfl) (pe_lst (pa_nil)))
      (pss_cons (ps_for PassesOwn.never rfl (pi_list (pv 8)) (pg_tup rfl (pgs_cons (pg_name (i := 12) nd rfl (.inr rfl)) (pgs_cons (pg_name (i := 13) nd rfl (.inl rfl)) (pgs_nil))))
      (pss_cons (ps_expr (pe_bm PySem.F.plainAttrs_list PySem.F.slot_list_extend PySem.F.type_list_extend mt_extend (pv 11) (pa_cons (pe_lc (own := [("k", 1), ("sheet", 16)]) (g := gTup K 2 (gCons (gName 1) (gCons (gName 16) (gNil)))) (by rfl) nd (pi_enumT (by rfl) T.n_enumerate (pa_cons (pv 13) pa_nil)) (blkOk_by (N := ["script", "k", "spring", "n", "b", "s", "trail", "most", "told", "stop", "left", "copies", "beat", "sheets", "plan", "t", "sheet"]) (sc := defScope s_law) (by decide +kernel)) (fun _ _ _ _ _ => pg_tup rfl (pgs_cons (pg_name (i := 1) nd rfl (.inl rfl) (.inr rfl)) (pgs_cons (pg_name (i := 16) nd rfl (.inl rfl) (.inr rfl)) (pgs_nil)))) (fun _ _ _ _ _ => pts_nil) (fun _ _ _ _ _ => pe_tup (pa_cons (pe_op op_add (pv 12) (pe_op op_fdiv (pv 1) (pv 4))) (pa_cons (pv 16) pa_nil)))) pa_nil)))
      (pss_nil)))
      (pss_cons (ps_set (i := 14) nd rfl (.inl rfl) (pe_tup (pa_cons (pe_callB cr_sort2 (by rfl) T.n_sorted (by decide +kernel) (pa_cons (pv 11) pa_nil)) (pa_cons (pv 9) pa_nil))))
      (pss_cons (ps_if (PW.pt (pw_or (pt_cmpR (op_neD hr.units) (pe_cal c_left_by hr (by decide) (by rfl) (pa_cons (pv 3) (pa_cons (pv 6) (pa_cons (pv 14) pa_nil)))) (pe_callTy call_listG (by rfl) T.n_list (by decide +kernel) (pa_cons (pv 10) pa_nil)) (nomark _)) (pw_or1 (pt_cmpR op_notBl (pe_cal c_is_plan hr (by decide) (by rfl) (pa_cons (pv 3) (pa_cons (pv 6) (pa_cons (pv 4) (pa_cons (pe_callB call_lenG (by rfl) T.n_len (by decide +kernel) (pa_cons (pv 10) pa_nil)) (pa_cons (pv 14) pa_nil)))))) (pe_bl) (nomark _))))) (pss_cons ps_never (pss_nil)) (pss_nil))
      (pss_cons (ps_if (PW.pt (pw_or (pt_cmpR op_lt (pe_cal c_carried_by hr (by decide) (by rfl) (pa_cons (pv 3) (pa_cons (pv 6) (pa_cons (pv 14) pa_nil)))) (pv 3) (nomark _)) (pw_or1 (pt_cmpR op_gt (pe_ix (r := rIxT K) ix_tup (pe_cal c_least_left hr (by decide) (by rfl) (pa_cons (pv 3) (pa_cons (pv 6) (pa_cons (pv 4) (pa_cons (pv 9) pa_nil))))) pe_int (fun _ _ => rfl)) (pe_callB call_lenG (by rfl) T.n_len (by decide +kernel) (pa_cons (pv 10) pa_nil)) (nomark _))))) (pss_cons ps_never (pss_nil)) (pss_nil))
      (pss_cons (ps_if (pt_val (pe_callB (cr_any rfl) (by rfl) T.n_any (by decide +kernel) (pa_cons (pe_lc (own := [("t", 15)]) (g := gName 15) (by rfl) nd (pi_range2 (by rfl) T.n_range (pa_cons (pe_un un_neg (pe_int)) (pa_cons (pv 9) pa_nil))) (blkOk_by (N := ["script", "k", "spring", "n", "b", "s", "trail", "most", "told", "stop", "left", "copies", "beat", "sheets", "plan", "t", "sheet"]) (sc := defScope s_law) (by decide +kernel)) (fun _ _ _ _ _ => pg_name (i := 15) nd rfl (.inl rfl) (.inr rfl)) (fun _ _ _ _ _ => pts_nil) (fun _ _ _ _ _ => pe_cal c_bars hr (by decide) (by rfl) (pa_cons (pv 3) (pa_cons (pv 6) (pa_cons (pv 4) (pa_cons (pe_callB (r := rLenS K) call_lenG (by rfl) T.n_len (by decide +kernel) (pa_cons (pv 10) pa_nil)) (pa_cons (pv 9) (pa_cons (pv 15) pa_nil)))))))) pa_nil))) (pss_cons ps_never (pss_nil)) (pss_nil))
      (pss_cons (ps_if (PW.pt (pw_or (PW.pt (pw_and (pt_cmpR op_gt (pe_callB call_lenG (by rfl) T.n_len (by decide +kernel) (pa_cons (pv 10) pa_nil)) (pv 5) (nomark _)) (pw_and1 (pt_cmpR op_lt (pe_callB call_lenG (by rfl) T.n_len (by decide +kernel) (pa_cons (pv 8) pa_nil)) (pv 7) (nomark _))))) (pw_or1 (pt_cmpR op_gt (pe_ix (r := rIxT K) ix_tup (pe_cal c_rounds hr (by decide) (by rfl) (pa_cons (pv 3) (pa_cons (pv 6) (pa_cons (pv 4) (pa_cons (pe_callB (call_minG rfl) (by rfl) T.n_min (by decide +kernel) (pa_cons (pe_int) (pa_cons (pe_op op_add (pv 5) (pe_int)) pa_nil))) (pa_cons (pv 7) pa_nil)))))) pe_int (fun _ _ => rfl)) (pv 9) (nomark _))))) (pss_cons ps_never (pss_nil)) (pss_nil))
      (pss_nil))))))))))))))
      (pss_cons (ps_ret (pe_bl))
      (pss_nil)), ?_⟩
  intro script hpre B S0 Q hret
  show At _ _ _ _ [.im script, .no, .no, .no, .no, .no, .no, .no, .no, .no, .no, .no, .no, .no, .no, .no, .no]
  refine qg_inv (fun st_ : Unit => [.im script, .no, .no, .no, .no, .no, .no, .no, .no, .no, .no, .no, .no, .no, .no, .no, .no]) (fun _ (_ : Unit) => True) () (it_rng1 (ev_max (ev_int) (ev_min (ev_int) (ev_lenS (ev_var (i := 0) rfl)))) (by first | omega | (dsimp only; omega))) (.k (.d (.d (.d (.d (.d (.d (.d (.d (.d (.d (.d (.d (.d (.d (.d (.d .n))))))))))))))))) (by trivial) (fun pre0 k post0 s0 ex0 hs0 Sb0 rb0 => ⟨_, _, tg_name rfl, ?_⟩) (fun s0 hs0 => ?_)
  ·
    show At _ _ _ _ [.im script, .im k, .no, .no, .no, .no, .no, .no, .no, .no, .no, .no, .no, .no, .no, .no, .no]
    obtain ⟨_, _, hk0, hk1⟩ := rng_pre ex0
    refine q_spring 2 (ea_cons (ev_var (i := 0) rfl) (ea_cons (ev_var (i := 1) rfl) (ea_nil))) (by omega) rfl fun spring => ?_
    refine q_rel 2 rfl (ea_nil) rfl (by ((try dsimp only) <;> (repeat' (first | assumption | omega | refine And.intro ?_ ?_)) <;> first | trivial | assumption | omega | decide | simp)) fun y spring1 hR_y a_spring1 => ⟨_, _, tg_t3 (tg_name rfl) (tg_name rfl) (tg_name rfl), ?_⟩
    obtain ⟨n, b, s⟩ := y
    show At _ _ _ _ [.im script, .im k, .ow spring1, .im n, .im b, .im s, .no, .no, .no, .no, .no, .no, .no, .no, .no, .no, .no]
    obtain ⟨n0, n1, b0, b1, q0, q1⟩ := hR_y
    dsimp only at n0 n1 b0 b1 q0 q1
    refine q_rel 2 rfl (ea_cons (ev_var (i := 3) rfl) (ea_cons (ev_int) (ea_nil))) rfl (by ((try dsimp only) <;> (repeat' (first | assumption | omega | refine And.intro ?_ ?_)) <;> first | trivial | assumption | omega | decide | simp)) fun trail spring2 hR_trail a_spring2 => ⟨_, _, tg_name rfl, ?_⟩
    show At _ _ _ _ [.im script, .im k, .ow spring2, .im n, .im b, .im s, .im trail, .no, .no, .no, .no, .no, .no, .no, .no, .no, .no]
    have htr := hR_trail.ok (by dsimp only; omega) (by show (30 : Int) ≤ 100000; decide)
    have hlen := hR_trail.len
    dsimp only at hlen
    show At _ _ _ _ [.im script, .im k, .ow spring2, .im n, .im b, .im s, .im trail, .no, .no, .no, .no, .no, .no, .no, .no, .no, .no]
    refine qg_set 7 (ev_ix (EvL.ev (el_lst (els_cons (ev_int) (els_cons (ev_int) (els_cons (ev_int) (els_cons (ev_int) (els_nil))))) (by simp))) (ev_callM (i := 2) rfl (ea_cons (ev_int) (ea_nil)) rfl (by refine ⟨?_, ?_⟩ <;> first | decide | omega | (dsimp only; omega))) (by first | omega | exact cup_bd _ (by first | decide | (dsimp only; omega) | simp))) rfl fun most h_most => ?_
    refine at_genO 2 rfl fun spring3 h_spring3 => ?_
    obtain ⟨d, e_d, l_d, u_d, a_spring3⟩ := cup_ex' h_spring3 (by first | decide | omega | (dsimp only; omega))
    rw [e_d] at h_most
    clear e_d h_spring3; (try dsimp only at u_d)
    show At _ _ _ _ [.im script, .im k, .ow spring3, .im n, .im b, .im s, .im trail, .im most, .no, .no, .no, .no, .no, .no, .no, .no, .no]
    have hmo : 1 ≤ most ∧ most ≤ 20 := by rw [h_most]; exact ix_all (xs := ([1, 2, 3, 20] : List Int)) (P := fun y : Int => 1 ≤ y ∧ y ≤ 20) (by decide) ⟨l_d, u_d⟩
    clear h_most
    refine qg_t3 8 9 10 (ev_callN (ea_cons (ev_var (i := 3) rfl) (ea_cons (ev_var (i := 6) rfl) (ea_cons (ev_var (i := 4) rfl) (ea_cons (ev_var (i := 5) rfl) (ea_cons (ev_var (i := 7) rfl) (ea_nil)))))) (by exact ⟨by dsimp only; omega, by dsimp only; omega, htr, by dsimp only; omega, by dsimp only; omega, by dsimp only; omega, by dsimp only; omega⟩)) rfl rfl rfl fun told stop left h_told h_stop h_left => ?_
    have hP : RdP n trail b most := ⟨by omega, by omega, htr, by omega, by omega, by omega, by omega⟩
    have hLr : (⟨told, stop, left⟩ : RR) = roundsM n trail b s most := by rw [h_told, h_stop, h_left]
    have hL := rounds_law (s := s) hP (by omega)
    have hlat := rounds_later (s := s) (s' := min 12 (s + 1)) hP (by omega)
    rw [← hLr] at hL hlat
    clear h_told h_stop h_left
    have hll : (left.l.length : Int) ≤ n := by have h9 := hL.ok.left; dsimp only at h9; rw [h9]; have h8 := left_len n trail (cpsOf b told, stop); omega
    have htl : (told.length : Int) ≤ most := hL.ok.len
    have hst0 : 0 ≤ stop := hL.ok.t0
    have hst1 : stop ≤ 2000 * (told.length : Int) := hL.tb
    have hcl : (cpsOf b told).length ≤ 240 := hL.len (by omega) (by omega)
    have hlf : leftM n trail (srt2 (cpsOf b told), stop) = left.l := hL.left
    have hip : isPlanM n trail b (left.l.length : Int) (srt2 (cpsOf b told), stop) = true := hL.plan
    have hca := hL.carried (by omega)
    have hls : (leastM n trail b stop).1 ≤ (left.l.length : Int) := hL.least (by omega)
    have hfi : ¬ (s < (left.l.length : Int) ∧ (told.length : Int) < most) := hL.fin
    have hlt : (roundsM n trail b (min 12 (s + 1)) most).b ≤ stop := hlat
    refine qg_own 11 (el_lst (els_nil (α := (Int × Int))) (by simp)) rfl fun copies h_copies => ?_
    refine qg_inv (fun st_ : (List (Int × Int)) => [.im script, .im k, .ow spring3, .im n, .im b, .im s, .im trail, .im most, .im told, .im stop, .im left, .ow st_, .no, .no, .no, .no, .no]) (fun pre (st : List (Int × Int)) => st = cpsOf b pre) copies (it_list (ev_var (i := 8) rfl)) (.k (.k (.k (.k (.k (.k (.k (.k (.k (.k (.k (.k (.d (.d (.d (.d (.d .n))))))))))))))))) h_copies (fun pre1 it post1 s1 ex1 hs1 Sb1 rb1 => ⟨_, _, tg_pair (tg_name rfl) (tg_name rfl), ?_⟩) (fun s1 hs1 => ?_)
    ·
      show At _ _ _ _ [.im script, .im k, .ow spring3, .im n, .im b, .im s, .im trail, .im most, .im told, .im stop, .im left, .ow s1, .im it.1, .im it.2, .no, .no, .no]
      have him : it ∈ told := by rw [← ex1]; simp
      have hil : it.2.l.length ≤ n.toNat := hL.few it him
      have hpl1 := cpsOf_len (b := b) (m := 12) (told := pre1) fun x hx => by have := hL.few x (by rw [← ex1]; exact List.mem_append_left _ hx); omega
      have hpl2 : pre1.length ≤ told.length := by have h9 := congrArg List.length ex1; rw [List.length_append] at h9; omega
      have hpl3 : s1.length ≤ 240 := by rw [hs1]; have : pre1.length * 12 ≤ 20 * 12 := Nat.mul_le_mul_right _ (by omega); omega
      refine qg_ext 11 rfl (EvL.c (el_lcM _ (it_enumT (ev_var (i := 13) rfl)) (by rw [len_enumI]; omega) rfl (fun x hm_x => ⟨_, _, tg_pair (tg_name rfl) (tg_name rfl), (by decide), ev_pair (ev_i0 (ev_var (i := 12) rfl) (ev_iC (ev_var (i := 1) rfl) (ev_var (i := 4) rfl) (by first | exact ⟨by decide, by decide⟩ | exact ⟨by omega, by omega⟩))) (ev_var (i := 16) rfl)⟩))) rfl (by exact le_line (by rw [List.length_map, len_enumI]; omega)) fun copies1 h_copies1 => ?_
      exact q_next (at_mid (.k (.k (.k (.k (.k (.k (.k (.k (.k (.k (.k (.k (.d (.d (.d (.d (.d .n))))))))))))))))) ⟨copies1, by rfl, by rw [h_copies1, hs1, cpsOf_snoc]; rfl⟩)
    ·
      show At _ _ _ _ [.im script, .im k, .ow spring3, .im n, .im b, .im s, .im trail, .im most, .im told, .im stop, .im left, .ow s1, .no, .no, .no, .no, .no]
      refine qg_set 14 (ev_pair (EvL.ev (el_sort2 (ec_own (i := 11) rfl))) (ev_var (i := 9) rfl)) rfl fun plan h_plan => ?_
      have hpl : plan = (srt2 (cpsOf b told), stop) := by rw [h_plan, hs1]
      show At _ _ _ _ [.im script, .im k, .ow spring3, .im n, .im b, .im s, .im trail, .im most, .im told, .im stop, .im left, .ow s1, .no, .no, .im plan, .no, .no]
      refine q_ifF (et_or (et_test (ev_neD (ev_callN (ea_cons (ev_var (i := 3) rfl) (ea_cons (ev_var (i := 6) rfl) (ea_cons (ev_var (i := 14) rfl) (ea_nil)))) (by rw [hpl]; exact ⟨by dsimp only; omega, by dsimp only; omega, htr, (by show (srt2 (cpsOf b told)).length ≤ 1000; rw [(srt2_perm _).length_eq]; omega), by dsimp only; omega, by dsimp only; omega⟩)) (EvL.ev (el_listT (ev_var (i := 10) rfl))) (by decide))) (fun hc => et_test (ev_nisB (ev_call (ea_cons (ev_var (i := 3) rfl) (ea_cons (ev_var (i := 6) rfl) (ea_cons (ev_var (i := 4) rfl) (ea_cons (ev_lenT (ev_var (i := 10) rfl)) (ea_cons (ev_var (i := 14) rfl) (ea_nil)))))) (by rw [hpl]; exact ⟨by dsimp only; omega, by dsimp only; omega, htr, ⟨(by show (srt2 (cpsOf b told)).length ≤ 300; rw [(srt2_perm _).length_eq]; omega), hL.pw⟩, by dsimp only; omega, by dsimp only; omega⟩)) (ev_bl)))) ?_ ?_
      · rw [hpl]; show (!decide (leftM n trail (srt2 (cpsOf b told), stop) = left.l) || !decide (isPlanM n trail b (left.l.length : Int) (srt2 (cpsOf b told), stop) = true)) = false; rw [hlf, hip]; simp
      refine q_ifF (et_or (et_test (ev_b0 (ev_call (ea_cons (ev_var (i := 3) rfl) (ea_cons (ev_var (i := 6) rfl) (ea_cons (ev_var (i := 14) rfl) (ea_nil)))) (by rw [hpl]; exact ⟨by dsimp only; omega, by dsimp only; omega, htr, (by show (srt2 (cpsOf b told)).length ≤ 1000; rw [(srt2_perm _).length_eq]; omega), by dsimp only; omega, by dsimp only; omega⟩)) (ev_var (i := 3) rfl))) (fun hc => et_test (ev_b0 (ev_fst (ev_call (ea_cons (ev_var (i := 3) rfl) (ea_cons (ev_var (i := 6) rfl) (ea_cons (ev_var (i := 4) rfl) (ea_cons (ev_var (i := 9) rfl) (ea_nil))))) (by exact ⟨by dsimp only; omega, by dsimp only; omega, htr, by dsimp only; omega, by dsimp only; omega, by dsimp only; omega, by dsimp only; omega⟩))) (ev_lenT (ev_var (i := 10) rfl))))) ?_ ?_
      · rw [hpl]; show (decide (((srt2 (cpsOf b told)).length : Int) + ((leftM n trail (srt2 (cpsOf b told), stop)).length : Int) < n) || decide ((leastM n trail b stop).1 > (left.l.length : Int))) = false; dsimp only at hca; rw [decide_eq_false (by omega), decide_eq_false (by omega)]; rfl
      refine q_ifF (et_B (ev_any (EvL.c (el_lcM _ (it_rng2 (ev_neg (ev_int)) (ev_var (i := 9) rfl) (by first | omega | (dsimp only; omega))) (by first | omega | (dsimp only; omega) | (rw [len_rng]; omega) | (rw [len_rng]; exact le_line (by omega))) rfl (fun x1 hm_x1 => ⟨_, _, tg_name rfl, (by decide), ev_call (ea_cons (ev_var (i := 3) rfl) (ea_cons (ev_var (i := 6) rfl) (ea_cons (ev_var (i := 4) rfl) (ea_cons (ev_lenT (ev_var (i := 10) rfl)) (ea_cons (ev_var (i := 9) rfl) (ea_cons (ev_var (i := 15) rfl) (ea_nil))))))) (by exact ⟨by dsimp only; omega, by dsimp only; omega, by dsimp only; omega, htr, by dsimp only; omega, by dsimp only; omega, by dsimp only; omega⟩)⟩))))) ?_ ?_
      · rw [List.any_eq_false]; intro x hx; obtain ⟨t, _, rfl⟩ := List.mem_map.mp hx; have h9 : barsM n trail b (left.l.length : Int) stop t = false := hL.bars; show ¬ (id (barsM n trail b (left.l.length : Int) stop t) = true); rw [h9]; decide
      refine q_ifF (et_or (et_and (et_test (ev_b0 (ev_lenT (ev_var (i := 10) rfl)) (ev_var (i := 5) rfl))) (fun hc => et_test (ev_b0 (ev_len (EvX.c (ev_var (i := 8) rfl))) (ev_var (i := 7) rfl)))) (fun hc => et_test (ev_b0 (ev_3b (ev_callN (ea_cons (ev_var (i := 3) rfl) (ea_cons (ev_var (i := 6) rfl) (ea_cons (ev_var (i := 4) rfl) (ea_cons (ev_min (ev_int) (ev_i0 (ev_var (i := 5) rfl) (ev_int))) (ea_cons (ev_var (i := 7) rfl) (ea_nil)))))) (by exact ⟨by dsimp only; omega, by dsimp only; omega, htr, by dsimp only; omega, by dsimp only; omega, by dsimp only; omega, by dsimp only; omega⟩))) (ev_var (i := 9) rfl)))) ?_ ?_
      · show ((decide ((left.l.length : Int) > s) && decide ((told.length : Int) < most)) || decide ((roundsM n trail b (min 12 (s + 1)) most).b > stop)) = false; rw [decide_eq_false (show ¬ (roundsM n trail b (min 12 (s + 1)) most).b > stop by omega), Bool.or_false]; by_cases c1 : s < (left.l.length : Int)
        · rw [decide_eq_false (show ¬ (told.length : Int) < most from fun z => hfi ⟨c1, z⟩), Bool.and_false]
        · rw [decide_eq_false (show ¬ (left.l.length : Int) > s by omega), Bool.false_and]
      exact q_next (at_mid (.k (.d (.d (.d (.d (.d (.d (.d (.d (.d (.d (.d (.d (.d (.d (.d (.d .n))))))))))))))))) ⟨(), by rfl, by trivial⟩)
  ·
    show At _ _ _ _ [.im script, .no, .no, .no, .no, .no, .no, .no, .no, .no, .no, .no, .no, .no, .no, .no, .no]
    exact q_ret (ev_bl) (hret _ _ (by rfl))
end
end L12
namespace L12
open PySem PySem.Spec PyProof.Rows L2 GL
theorem def_mk {K : Fg} {mg : Str → Option Value} {h : Heap} {x : Str} {st : Stmt} {ps : List Str} {f : Addr} {oc : Value} {od an : Option Addr} {osl : Array (Option Value)} {kV doc pm cdv ct : Value} (X : K.In h) (G : h.Ns mainGlobals mg) (a : PySem.W.nsIn K mainGlobals x = some (some (.ref f)))
    (l : K.lookup f = some ⟨oc, od, .func (PySem.W.fnOf x x (defArgs st) (defBody st) (defScope st) .none kV doc pm an cdv ct), osl⟩) (c : PySem.W.codeIn K cdv x = true) (k : PySem.W.keepIn K (.ref f) = true)
    (hb : ∀ (kV doc pm : Value) (an : Option Addr) (cdv ct : Value) (us : List Value), us.length = ps.length → bindArgs (PySem.W.fnOf x x (defArgs st) (defBody st) (defScope st) .none kV doc pm an cdv ct) ⟨us, []⟩ = pure (ps.zip us)) : Def K mg x st ps :=
  ⟨f, _, PySem.W.mg_of X G a, fun_mk l c k, (fun_mk l c k).binds hb⟩
section
variable {P : Program} {w : World} {K : Fg} {mg : Str → Option Value} {base : Heap}
set_option maxHeartbeats 4000000 in
theorem all_ok {fa : Addr} {fd : FuncData} (T : Tx K mg) (F : Fun K "law" "law" s_law fa fd) : FnOk P w K mg base CX0 5 fa fd ["script"] (spLaw K) := by
  have c__law_spring : Cal P w K mg base 1 "_law_spring" ["script", "k"] (spSpring K) := ok__law_spring T 
  have c__law_cup : Cal P w K mg base 1 "_law_cup" ["spring", "many"] (spM K (fun (z : Spr) (a : Int × Unit) => lawCup z a.1) (fun z a => 0 < a.1 ∧ a.1 < 1073741824)) := ok__law_cup T 
  have c__law_trace : Cal P w K mg base 2 "_law_trace" ["spring", "n", "most"] (spRS K (fun (a : Int × Int × Unit) (y : (List (Tp Int))) => TrLaw a.1 a.2.1 y) (fun a => 1 ≤ a.1 ∧ a.1 ≤ 12 ∧ 0 ≤ a.2.1 ∧ a.2.1 ≤ 1000)) := ok__law_trace T c__law_cup
  have c__law_sizes : Cal P w K mg base 2 "_law_sizes" ["spring"] (spRS K (fun (a : Unit) (y : (T3 Int Int Int)) => SzOk y) (fun a => True)) := ok__law_sizes T c__law_cup
  have c_written_in : Cal P w K mg base 1 "written_in" ["trace", "start", "stop"] (spF K (fun a : (List (Tp Int)) × Int × Int × Unit => writtenIn a.1 a.2.1 a.2.2.1) (fun a => TrOk a.1 ∧ 0 ≤ a.2.1 ∧ a.2.1 ≤ 100000 ∧ -1000 ≤ a.2.2.1 ∧ a.2.2.1 ≤ 1000000000000000000000000000000000000000000000000000000000000)) := ok_written_in T 
  have c_rounds : Cal P w K mg base 2 "rounds" ["n", "trace", "b", "s", "most"] (spN K (fun a : Int × (List (Tp Int)) × Int × Int × Int × Unit => roundsM a.1 a.2.1 a.2.2.1 a.2.2.2.1 a.2.2.2.2.1) (fun a => RdP a.1 a.2.1 a.2.2.1 a.2.2.2.2.1)) := ok_rounds T c_written_in
  have c_left_by : Cal P w K mg base 2 "left_by" ["n", "trace", "plan"] (spN K (fun a : Int × (List (Tp Int)) × ((List (Int × Int)) × Int) × Unit => leftM a.1 a.2.1 a.2.2.1) (fun a => 0 ≤ a.1 ∧ a.1 ≤ 1000 ∧ TrOk a.2.1 ∧ a.2.2.1.1.length ≤ 1000 ∧ -1000 ≤ a.2.2.1.2 ∧ a.2.2.1.2 ≤ 1000000000000000000000000000000000000000000000000000000000000)) := ok_left_by T c_written_in
  have c_is_plan : Cal P w K mg base 3 "is_plan" ["n", "trace", "b", "s", "plan"] (spF K (fun a : Int × (List (Tp Int)) × Int × Int × ((List (Int × Int)) × Int) × Unit => isPlanM a.1 a.2.1 a.2.2.1 a.2.2.2.1 a.2.2.2.2.1) (fun a => 0 ≤ a.1 ∧ a.1 ≤ 1000 ∧ TrOk a.2.1 ∧ (a.2.2.2.2.1.1.length ≤ 300 ∧ a.2.2.2.2.1.1.Pairwise lt2) ∧ -1000 ≤ a.2.2.2.2.1.2 ∧ a.2.2.2.2.1.2 ≤ 1000000000000000000000000000000000000000000000000000000000000)) := ok_is_plan T c_left_by
  have c_carried_by : Cal P w K mg base 3 "carried_by" ["n", "trace", "plan"] (spF K (fun a : Int × (List (Tp Int)) × ((List (Int × Int)) × Int) × Unit => ((a.2.2.1.1.length : Int) + ((leftM a.1 a.2.1 a.2.2.1).length : Int))) (fun a => 0 ≤ a.1 ∧ a.1 ≤ 1000 ∧ TrOk a.2.1 ∧ a.2.2.1.1.length ≤ 1000 ∧ -1000 ≤ a.2.2.1.2 ∧ a.2.2.1.2 ≤ 1000000000000000000000000000000000000000000000000000000000000)) := ok_carried_by T c_left_by
  have c_last_writings : Cal P w K mg base 2 "last_writings" ["n", "trace", "stop"] (spF K (fun a : Int × (List (Tp Int)) × Int × Unit => lastsM a.1 a.2.1 a.2.2.1) (fun a => 0 ≤ a.1 ∧ a.1 ≤ 1000 ∧ TrOk a.2.1 ∧ 0 ≤ a.2.2.1 ∧ a.2.2.1 ≤ 100000)) := ok_last_writings T c_written_in
  have c_lack : Cal P w K mg base 1 "lack" ["lasts", "b", "stop", "t"] (spF K (fun a : (List Int) × Int × Int × Int × Unit => lackM a.1 a.2.1 a.2.2.1 a.2.2.2.1) (fun a => a.1.length ≤ 1000000 ∧ 0 ≤ a.2.1 ∧ a.2.1 ≤ 1000)) := ok_lack T 
  have c_bars : Cal P w K mg base 3 "bars" ["n", "trace", "b", "s", "stop", "t"] (spF K (fun a : Int × (List (Tp Int)) × Int × Int × Int × Int × Unit => barsM a.1 a.2.1 a.2.2.1 a.2.2.2.1 a.2.2.2.2.1 a.2.2.2.2.2.1) (fun a => -5 ≤ a.2.2.2.2.1 ∧ a.1 ≤ 1000 ∧ 0 ≤ a.1 ∧ TrOk a.2.1 ∧ 0 ≤ a.2.2.1 ∧ a.2.2.1 ≤ 1000 ∧ a.2.2.2.2.1 ≤ 100000)) := ok_bars T c_lack c_last_writings
  have c_least_left : Cal P w K mg base 3 "least_left" ["n", "trace", "b", "stop"] (spF K (fun a : Int × (List (Tp Int)) × Int × Int × Unit => leastM a.1 a.2.1 a.2.2.1 a.2.2.2.1) (fun a => 0 ≤ a.1 ∧ a.1 ≤ 60 ∧ TrOk a.2.1 ∧ 0 ≤ a.2.2.1 ∧ a.2.2.1 ≤ 1000 ∧ 0 ≤ a.2.2.2.1 ∧ a.2.2.2.1 ≤ 100000)) := ok_least_left T c_lack c_last_writings
  exact ok_law T F c__law_cup c__law_sizes c__law_spring c__law_trace c_bars c_carried_by c_is_plan c_least_left c_left_by c_rounds
end
set_option maxHeartbeats 4000000 in
theorem all_mk {l : PySem.W.OpenLaw} {w : World} {K : Fg} {h : Heap} {mg : Str → Option Value} {fa f0 f1 f2 f3 f4 f5 f6 f7 f8 f9 f10 f11 f12 f13 : Addr} (X : K.In h) (G : h.Ns mainGlobals mg) (hfa : mg "law" = some (.ref fa))
    {od0 an0 : Option Addr} {sl0 : Array (Option Value)} {oc0 kV0 dc0 pm0 cd0 ct0 : Value}
    (a0 : PySem.W.nsIn K mainGlobals "written_in" = some (some (.ref f0))) (l0 : K.lookup f0 = some ⟨oc0, od0, .func (PySem.W.fnOf "written_in" "written_in" (defArgs s_written_in) (defBody s_written_in) (defScope s_written_in) .none kV0 dc0 pm0 an0 cd0 ct0), sl0⟩) (c0 : PySem.W.codeIn K cd0 "written_in" = true) (k0 : PySem.W.keepIn K (.ref f0) = true)
    {od1 an1 : Option Addr} {sl1 : Array (Option Value)} {oc1 kV1 dc1 pm1 cd1 ct1 : Value}
    (a1 : PySem.W.nsIn K mainGlobals "rounds" = some (some (.ref f1))) (l1 : K.lookup f1 = some ⟨oc1, od1, .func (PySem.W.fnOf "rounds" "rounds" (defArgs s_rounds) (defBody s_rounds) (defScope s_rounds) .none kV1 dc1 pm1 an1 cd1 ct1), sl1⟩) (c1 : PySem.W.codeIn K cd1 "rounds" = true) (k1 : PySem.W.keepIn K (.ref f1) = true)
    {od2 an2 : Option Addr} {sl2 : Array (Option Value)} {oc2 kV2 dc2 pm2 cd2 ct2 : Value}
    (a2 : PySem.W.nsIn K mainGlobals "left_by" = some (some (.ref f2))) (l2 : K.lookup f2 = some ⟨oc2, od2, .func (PySem.W.fnOf "left_by" "left_by" (defArgs s_left_by) (defBody s_left_by) (defScope s_left_by) .none kV2 dc2 pm2 an2 cd2 ct2), sl2⟩) (c2 : PySem.W.codeIn K cd2 "left_by" = true) (k2 : PySem.W.keepIn K (.ref f2) = true)
    {od3 an3 : Option Addr} {sl3 : Array (Option Value)} {oc3 kV3 dc3 pm3 cd3 ct3 : Value}
    (a3 : PySem.W.nsIn K mainGlobals "is_plan" = some (some (.ref f3))) (l3 : K.lookup f3 = some ⟨oc3, od3, .func (PySem.W.fnOf "is_plan" "is_plan" (defArgs s_is_plan) (defBody s_is_plan) (defScope s_is_plan) .none kV3 dc3 pm3 an3 cd3 ct3), sl3⟩) (c3 : PySem.W.codeIn K cd3 "is_plan" = true) (k3 : PySem.W.keepIn K (.ref f3) = true)
    {od4 an4 : Option Addr} {sl4 : Array (Option Value)} {oc4 kV4 dc4 pm4 cd4 ct4 : Value}
    (a4 : PySem.W.nsIn K mainGlobals "carried_by" = some (some (.ref f4))) (l4 : K.lookup f4 = some ⟨oc4, od4, .func (PySem.W.fnOf "carried_by" "carried_by" (defArgs s_carried_by) (defBody s_carried_by) (defScope s_carried_by) .none kV4 dc4 pm4 an4 cd4 ct4), sl4⟩) (c4 : PySem.W.codeIn K cd4 "carried_by" = true) (k4 : PySem.W.keepIn K (.ref f4) = true)
    {od5 an5 : Option Addr} {sl5 : Array (Option Value)} {oc5 kV5 dc5 pm5 cd5 ct5 : Value}
    (a5 : PySem.W.nsIn K mainGlobals "last_writings" = some (some (.ref f5))) (l5 : K.lookup f5 = some ⟨oc5, od5, .func (PySem.W.fnOf "last_writings" "last_writings" (defArgs s_last_writings) (defBody s_last_writings) (defScope s_last_writings) .none kV5 dc5 pm5 an5 cd5 ct5), sl5⟩) (c5 : PySem.W.codeIn K cd5 "last_writings" = true) (k5 : PySem.W.keepIn K (.ref f5) = true)
    {od6 an6 : Option Addr} {sl6 : Array (Option Value)} {oc6 kV6 dc6 pm6 cd6 ct6 : Value}
    (a6 : PySem.W.nsIn K mainGlobals "lack" = some (some (.ref f6))) (l6 : K.lookup f6 = some ⟨oc6, od6, .func (PySem.W.fnOf "lack" "lack" (defArgs s_lack) (defBody s_lack) (defScope s_lack) .none kV6 dc6 pm6 an6 cd6 ct6), sl6⟩) (c6 : PySem.W.codeIn K cd6 "lack" = true) (k6 : PySem.W.keepIn K (.ref f6) = true)
    {od7 an7 : Option Addr} {sl7 : Array (Option Value)} {oc7 kV7 dc7 pm7 cd7 ct7 : Value}
    (a7 : PySem.W.nsIn K mainGlobals "bars" = some (some (.ref f7))) (l7 : K.lookup f7 = some ⟨oc7, od7, .func (PySem.W.fnOf "bars" "bars" (defArgs s_bars) (defBody s_bars) (defScope s_bars) .none kV7 dc7 pm7 an7 cd7 ct7), sl7⟩) (c7 : PySem.W.codeIn K cd7 "bars" = true) (k7 : PySem.W.keepIn K (.ref f7) = true)
    {od8 an8 : Option Addr} {sl8 : Array (Option Value)} {oc8 kV8 dc8 pm8 cd8 ct8 : Value}
    (a8 : PySem.W.nsIn K mainGlobals "least_left" = some (some (.ref f8))) (l8 : K.lookup f8 = some ⟨oc8, od8, .func (PySem.W.fnOf "least_left" "least_left" (defArgs s_least_left) (defBody s_least_left) (defScope s_least_left) .none kV8 dc8 pm8 an8 cd8 ct8), sl8⟩) (c8 : PySem.W.codeIn K cd8 "least_left" = true) (k8 : PySem.W.keepIn K (.ref f8) = true)
    {od9 an9 : Option Addr} {sl9 : Array (Option Value)} {oc9 kV9 dc9 pm9 cd9 ct9 : Value}
    (a9 : PySem.W.nsIn K mainGlobals "_law_spring" = some (some (.ref f9))) (l9 : K.lookup f9 = some ⟨oc9, od9, .func (PySem.W.fnOf "_law_spring" "_law_spring" (defArgs s__law_spring) (defBody s__law_spring) (defScope s__law_spring) .none kV9 dc9 pm9 an9 cd9 ct9), sl9⟩) (c9 : PySem.W.codeIn K cd9 "_law_spring" = true) (k9 : PySem.W.keepIn K (.ref f9) = true)
    {od10 an10 : Option Addr} {sl10 : Array (Option Value)} {oc10 kV10 dc10 pm10 cd10 ct10 : Value}
    (a10 : PySem.W.nsIn K mainGlobals "_law_cup" = some (some (.ref f10))) (l10 : K.lookup f10 = some ⟨oc10, od10, .func (PySem.W.fnOf "_law_cup" "_law_cup" (defArgs s__law_cup) (defBody s__law_cup) (defScope s__law_cup) .none kV10 dc10 pm10 an10 cd10 ct10), sl10⟩) (c10 : PySem.W.codeIn K cd10 "_law_cup" = true) (k10 : PySem.W.keepIn K (.ref f10) = true)
    {od11 an11 : Option Addr} {sl11 : Array (Option Value)} {oc11 kV11 dc11 pm11 cd11 ct11 : Value}
    (a11 : PySem.W.nsIn K mainGlobals "_law_trace" = some (some (.ref f11))) (l11 : K.lookup f11 = some ⟨oc11, od11, .func (PySem.W.fnOf "_law_trace" "_law_trace" (defArgs s__law_trace) (defBody s__law_trace) (defScope s__law_trace) .none kV11 dc11 pm11 an11 cd11 ct11), sl11⟩) (c11 : PySem.W.codeIn K cd11 "_law_trace" = true) (k11 : PySem.W.keepIn K (.ref f11) = true)
    {od12 an12 : Option Addr} {sl12 : Array (Option Value)} {oc12 kV12 dc12 pm12 cd12 ct12 : Value}
    (a12 : PySem.W.nsIn K mainGlobals "_law_sizes" = some (some (.ref f12))) (l12 : K.lookup f12 = some ⟨oc12, od12, .func (PySem.W.fnOf "_law_sizes" "_law_sizes" (defArgs s__law_sizes) (defBody s__law_sizes) (defScope s__law_sizes) .none kV12 dc12 pm12 an12 cd12 ct12), sl12⟩) (c12 : PySem.W.codeIn K cd12 "_law_sizes" = true) (k12 : PySem.W.keepIn K (.ref f12) = true)
    {od13 an13 : Option Addr} {sl13 : Array (Option Value)} {oc13 kV13 dc13 pm13 cd13 ct13 : Value}
    (a13 : PySem.W.nsIn K mainGlobals "law" = some (some (.ref f13))) (l13 : K.lookup f13 = some ⟨oc13, od13, .func (PySem.W.fnOf "law" "law" (defArgs s_law) (defBody s_law) (defScope s_law) .none kV13 dc13 pm13 an13 cd13 ct13), sl13⟩) (c13 : PySem.W.codeIn K cd13 "law" = true) (k13 : PySem.W.keepIn K (.ref f13) = true)
    (z0 : PySem.W.nsIn K mainGlobals "any" = some none)
    (z1 : PySem.W.nsIn K mainGlobals "enumerate" = some none)
    (z2 : PySem.W.nsIn K mainGlobals "int" = some none)
    (z3 : PySem.W.nsIn K mainGlobals "len" = some none)
    (z4 : PySem.W.nsIn K mainGlobals "list" = some none)
    (z5 : PySem.W.nsIn K mainGlobals "max" = some none)
    (z6 : PySem.W.nsIn K mainGlobals "min" = some none)
    (z7 : PySem.W.nsIn K mainGlobals "range" = some none)
    (z8 : PySem.W.nsIn K mainGlobals "set" = some none)
    (z9 : PySem.W.nsIn K mainGlobals "sorted" = some none)
    (z10 : PySem.W.nsIn K mainGlobals "tuple" = some none)
    : ∃ fd : FuncData, (∀ (s : Shared) (v : Value), BindsTo s fd ⟨[v], []⟩ [("script", v)]) ∧ ∀ base : Heap, K.In base → base.Ns mainGlobals mg → FnOk l.prog w K mg base CX0 5 fa fd ["script"] (spLaw K) := by
  have T : Tx K mg := ⟨def_mk X G a0 l0 c0 k0 (fun _ _ _ _ _ _ us hl => match us, hl with | [_, _, _], _ => rfl), def_mk X G a1 l1 c1 k1 (fun _ _ _ _ _ _ us hl => match us, hl with | [_, _, _, _, _], _ => rfl), def_mk X G a2 l2 c2 k2 (fun _ _ _ _ _ _ us hl => match us, hl with | [_, _, _], _ => rfl), def_mk X G a3 l3 c3 k3 (fun _ _ _ _ _ _ us hl => match us, hl with | [_, _, _, _, _], _ => rfl), def_mk X G a4 l4 c4 k4 (fun _ _ _ _ _ _ us hl => match us, hl with | [_, _, _], _ => rfl), def_mk X G a5 l5 c5 k5 (fun _ _ _ _ _ _ us hl => match us, hl with | [_, _, _], _ => rfl), def_mk X G a6 l6 c6 k6 (fun _ _ _ _ _ _ us hl => match us, hl with | [_, _, _, _], _ => rfl), def_mk X G a7 l7 c7 k7 (fun _ _ _ _ _ _ us hl => match us, hl with | [_, _, _, _, _, _], _ => rfl), def_mk X G a8 l8 c8 k8 (fun _ _ _ _ _ _ us hl => match us, hl with | [_, _, _, _], _ => rfl), def_mk X G a9 l9 c9 k9 (fun _ _ _ _ _ _ us hl => match us, hl with | [_, _], _ => rfl), def_mk X G a10 l10 c10 k10 (fun _ _ _ _ _ _ us hl => match us, hl with | [_, _], _ => rfl), def_mk X G a11 l11 c11 k11 (fun _ _ _ _ _ _ us hl => match us, hl with | [_, _, _], _ => rfl), def_mk X G a12 l12 c12 k12 (fun _ _ _ _ _ _ us hl => match us, hl with | [_], _ => rfl), def_mk X G a13 l13 c13 k13 (fun _ _ _ _ _ _ us hl => match us, hl with | [_], _ => rfl), PySem.W.mg_none_of X G z0, PySem.W.mg_none_of X G z1, PySem.W.mg_none_of X G z2, PySem.W.mg_none_of X G z3, PySem.W.mg_none_of X G z4, PySem.W.mg_none_of X G z5, PySem.W.mg_none_of X G z6, PySem.W.mg_none_of X G z7, PySem.W.mg_none_of X G z8, PySem.W.mg_none_of X G z9, PySem.W.mg_none_of X G z10⟩
  have e := hfa.symm.trans (PySem.W.mg_of X G a13)
  cases e
  exact ⟨PySem.W.fnOf "law" "law" (defArgs s_law) (defBody s_law) (defScope s_law) .none kV13 dc13 pm13 an13 cd13 ct13, fun s v => .of_eq rfl, fun base _ _ => all_ok T (fun_mk (st := s_law) l13 c13 k13)⟩
end L12
open PySem PySem.W PyProof.Rows in
set_option maxRecDepth 100000 in
set_option maxHeartbeats 0 in
theorem PySem.Challenge.cw_warmove_k12_whole_rounds_and_plans_holds : PySem.Challenge.rw_warmove_k12_whole_rounds_and_plans.Holds := by
  w_on; o_law; k_head; (case hw => w_witness2)
  k_fill
  refine L2.walk_of (l := PySem.Challenge.rw_warmove_k12_whole_rounds_and_plans) (n := 63) (k := 5) (x := "script") (CX := fun _ => L2.CX0) (sp := fun w => GL.spLaw _) rfl (by decide) rfl ⟨rfl, by decide, by decide⟩ (fun w h Y => PySem.W.kIn_of Y) ?F (fun _ _ a ns hl _ hS => ⟨a, ns, rfl, hS, hl, fun _ => rfl⟩) (fun _ _ _ _ _ h => h)
  case F =>
    intro w mg fa h KX G hmg
    refine' L12.all_mk KX G hmg ?a0 ?l0 ?c0 ?k0 ?a1 ?l1 ?c1 ?k1 ?a2 ?l2 ?c2 ?k2 ?a3 ?l3 ?c3 ?k3 ?a4 ?l4 ?c4 ?k4 ?a5 ?l5 ?c5 ?k5 ?a6 ?l6 ?c6 ?k6 ?a7 ?l7 ?c7 ?k7 ?a8 ?l8 ?c8 ?k8 ?a9 ?l9 ?c9 ?k9 ?a10 ?l10 ?c10 ?k10 ?a11 ?l11 ?c11 ?k11 ?a12 ?l12 ?c12 ?k12 ?a13 ?l13 ?c13 ?k13 ?z0 ?z1 ?z2 ?z3 ?z4 ?z5 ?z6 ?z7 ?z8 ?z9 ?z10
    (case a0 => k_is)
    (case l0 => k_is)
    (case c0 => k_is)
    (case k0 => k_is)
    (case a1 => k_is)
    (case l1 => k_is)
    (case c1 => k_is)
    (case k1 => k_is)
    (case a2 => k_is)
    (case l2 => k_is)
    (case c2 => k_is)
    (case k2 => k_is)
    (case a3 => k_is)
    (case l3 => k_is)
    (case c3 => k_is)
    (case k3 => k_is)
    (case a4 => k_is)
    (case l4 => k_is)
    (case c4 => k_is)
    (case k4 => k_is)
    (case a5 => k_is)
    (case l5 => k_is)
    (case c5 => k_is)
    (case k5 => k_is)
    (case a6 => k_is)
    (case l6 => k_is)
    (case c6 => k_is)
    (case k6 => k_is)
    (case a7 => k_is)
    (case l7 => k_is)
    (case c7 => k_is)
    (case k7 => k_is)
    (case a8 => k_is)
    (case l8 => k_is)
    (case c8 => k_is)
    (case k8 => k_is)
    (case a9 => k_is)
    (case l9 => k_is)
    (case c9 => k_is)
    (case k9 => k_is)
    (case a10 => k_is)
    (case l10 => k_is)
    (case c10 => k_is)
    (case k10 => k_is)
    (case a11 => k_is)
    (case l11 => k_is)
    (case c11 => k_is)
    (case k11 => k_is)
    (case a12 => k_is)
    (case l12 => k_is)
    (case c12 => k_is)
    (case k12 => k_is)
    (case a13 => k_is)
    (case l13 => k_is)
    (case c13 => k_is)
    (case k13 => k_is)
    (case z0 => k_is)
    (case z1 => k_is)
    (case z2 => k_is)
    (case z3 => k_is)
    (case z4 => k_is)
    (case z5 => k_is)
    (case z6 => k_is)
    (case z7 => k_is)
    (case z8 => k_is)
    (case z9 => k_is)
    (case z10 => k_is)
#print axioms PySem.Challenge.cw_warmove_k12_whole_rounds_and_plans_holds
