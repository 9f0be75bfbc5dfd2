import PyProof.Rows.All
import Wide.All
import OpenK.AllK
import Wide.FinOn
import HandS.ForMost
import HandS.Evl
import HandS.Conv
import HandS.More
import HandS.SortInts
import HandS.IsInst
import HandS.TupMul
import HandS.TupAny
import HandS.TupSets
import HandS.SetFor
import HandS.List
import KE.KSortTupG
import KE.KSortTupUse
import HandS.Style
import HandS.Wide
import HandS.Exc
import HandS.ExcIs
import HandS.TryOnly
import HandS.ExcOwn
import HandS.ExcValue
import HandS.WordsExc
import HandS.TupLe
import HandS.Zip
import HandS.DictComp
import PyProof.TupleCall
import HandS.Dict
import KE.GoesMore
import KE.GoesEnum
import HandS.CallSlots
import HandS.Defaults
import HandS.MakeKw
import KE.KDictDisplayH
import PyProof.DictTable
import HandS.Rev
import HandS.RevTup
import PyProof.ListNew
import HandS.Ends
import PyProof.Rows.ReprR
import HandS.Codes
import HandS.Text
import KE.KEqNest
import PyProof.ReprLen
import HandS.TupLen
import KE.GoesZip
import HandS.ListEq
import HandS.RaiseMore
import PySem.Challenge.RW_warmove_k35_never_and_two_looked_at
set_option Elab.async false
set_option linter.all false
set_option maxRecDepth 100000
namespace GL
open PySem L2
abbrev Fg := PySem.W.Frag
class Py (α : Type) where
  rep : Fg → Hp → V → α → Prop
  mono : ∀ {K : Fg} {H H' : Hp} {v : V} {x : α}, Same H H' → rep K H v x → rep K H' v x
instance : Py Int := ⟨fun _ _ v x => v = .int x, fun _ h => h⟩
instance : Py Bool := ⟨fun _ _ v x => v = .bl x, fun _ h => h⟩
instance : Py Str := ⟨fun _ _ v x => v = .str x, fun _ h => h⟩
instance : Py Unit := ⟨fun _ _ v _ => v = .non, fun _ h => h⟩
def RepL {α : Type} [Py α] (K : Fg) (S : Hp) : List V → List α → Prop
  | [], [] => True
  | v :: vs, x :: xs => Py.rep K S v x ∧ RepL K S vs xs
  | _, _ => False
section
variable {α : Type} [Py α] {K : Fg} {S S' : Hp}
theorem RepL.mono (e : Same S S') : ∀ {vs : List V} {xs : List α}, RepL K S vs xs → RepL K S' vs xs
  | [], [], _ => True.intro
  | _ :: _, _ :: _, h => ⟨Py.mono e h.1, RepL.mono e h.2⟩
  | [], _ :: _, h => h.elim
  | _ :: _, [], h => h.elim
theorem RepL.len : ∀ {vs : List V} {xs : List α}, RepL K S vs xs → vs.length = xs.length
  | [], [], _ => rfl
  | _ :: vs, _ :: xs, h => by rw [List.length_cons, List.length_cons, RepL.len h.2]
  | [], _ :: _, h => h.elim
  | _ :: _, [], h => h.elim
theorem RepL.app : ∀ {vs ws : List V} {xs ys : List α}, RepL K S vs xs → RepL K S ws ys → RepL K S (vs ++ ws) (xs ++ ys)
  | [], _, [], _, _, h => h
  | _ :: _, _, _ :: _, _, h, h' => ⟨h.1, RepL.app h.2 h'⟩
  | [], _, _ :: _, _, h, _ => h.elim
  | _ :: _, _, [], _, h, _ => h.elim
theorem RepL.snoc {vs : List V} {xs : List α} {v : V} {x : α} (h : RepL K S vs xs) (r : Py.rep K S v x) : RepL K S (vs ++ [v]) (xs ++ [x]) := h.app ⟨r, True.intro⟩
theorem RepL.get : ∀ {vs : List V} {xs : List α} {i : Nat} {x : α}, RepL K S vs xs → xs[i]? = some x → ∃ v, vs[i]? = some v ∧ Py.rep K S v x
  | [], [], _, _, _, e => by simp at e
  | v :: _, y :: _, 0, x, h, e => by
    simp only [List.getElem?_cons_zero, Option.some.injEq] at e
    subst e
    exact ⟨v, rfl, h.1⟩
  | _ :: vs, _ :: xs, i + 1, x, h, e => by
    obtain ⟨w, h1, h2⟩ := RepL.get (vs := vs) (xs := xs) (i := i) (x := x) h.2 (by simpa using e)
    exact ⟨w, by simpa using h1, h2⟩
  | [], _ :: _, _, _, h, _ => h.elim
  | _ :: _, [], _, _, h, _ => h.elim
theorem RepL.set : ∀ {vs : List V} {xs : List α} {i : Nat} {v : V} {x : α}, RepL K S vs xs → Py.rep K S v x → RepL K S (vs.set i v) (xs.set i x)
  | [], [], _, _, _, _, _ => True.intro
  | _ :: _, _ :: _, 0, _, _, h, r => ⟨r, h.2⟩
  | _ :: _, _ :: _, _ + 1, _, _, h, r => ⟨h.1, RepL.set h.2 r⟩
  | [], _ :: _, _, _, _, h, _ => h.elim
  | _ :: _, [], _, _, _, h, _ => h.elim
theorem RepL.drop : ∀ {vs : List V} {xs : List α} (n : Nat), RepL K S vs xs → RepL K S (vs.drop n) (xs.drop n)
  | _, _, 0, h => h
  | [], [], _ + 1, _ => True.intro
  | _ :: _, _ :: _, n + 1, h => RepL.drop n h.2
  | [], _ :: _, _, h => h.elim
  | _ :: _, [], _, h => h.elim
theorem RepL.take : ∀ {vs : List V} {xs : List α} (n : Nat), RepL K S vs xs → RepL K S (vs.take n) (xs.take n)
  | _, _, 0, _ => True.intro
  | [], [], _ + 1, _ => True.intro
  | _ :: _, _ :: _, n + 1, h => ⟨h.1, RepL.take n h.2⟩
  | [], _ :: _, _, h => h.elim
  | _ :: _, [], _, h => h.elim
theorem RepL.erase : ∀ {vs : List V} {xs : List α} (n : Nat), RepL K S vs xs → RepL K S (vs.eraseIdx n) (xs.eraseIdx n)
  | [], [], _, _ => True.intro
  | _ :: _, _ :: _, 0, h => h.2
  | _ :: _, _ :: _, n + 1, h => ⟨h.1, RepL.erase n h.2⟩
  | [], _ :: _, _, h => h.elim
  | _ :: _, [], _, h => h.elim
theorem RepL.rep {vs : List V} {xs : List α} (h : RepL K S vs xs) : ∀ n : Nat, RepL K S (List.replicate n vs).flatten (List.replicate n xs).flatten
  | 0 => True.intro
  | n + 1 => by
    rw [List.replicate_succ, List.replicate_succ, List.flatten_cons, List.flatten_cons]
    exact h.app (RepL.rep h n)
theorem RepL.rev : ∀ {vs : List V} {xs : List α}, RepL K S vs xs → RepL K S vs.reverse xs.reverse
  | [], [], _ => True.intro
  | _ :: _, _ :: _, h => by
    rw [List.reverse_cons, List.reverse_cons]
    exact (RepL.rev h.2).snoc h.1
  | [], _ :: _, h => h.elim
  | _ :: _, [], h => h.elim
end
theorem RepL.ints {K : Fg} {S : Hp} : ∀ {vs : List V} {xs : List Int}, RepL K S vs xs → vs = xs.map V.int
  | [], [], _ => rfl
  | _ :: _, _ :: _, h => by
    rw [List.map_cons, ← RepL.ints h.2, show _ = V.int _ from h.1]
  | [], _ :: _, h => h.elim
  | _ :: _, [], h => h.elim
theorem RepL.bls {K : Fg} {S : Hp} : ∀ {vs : List V} {xs : List Bool}, RepL K S vs xs → vs = xs.map V.bl
  | [], [], _ => rfl
  | _ :: _, _ :: _, h => by
    rw [List.map_cons, ← RepL.bls h.2, show _ = V.bl _ from h.1]
  | [], _ :: _, h => h.elim
  | _ :: _, [], h => h.elim
theorem RepL.of_ints {K : Fg} {S : Hp} : ∀ (xs : List Int), RepL K S (xs.map V.int) xs
  | [] => True.intro
  | _ :: xs => ⟨rfl, RepL.of_ints xs⟩
theorem seqT {K : Fg} {H H' : Hp} {a : Addr} {xs : List V} (e : Same H H') (h : SqT K H a xs) : SqT K H' a xs := by
  rcases h with (h | ⟨o, h⟩) | h
  · exact .inl (.inl (e _ _ h))
  · exact .inl (.inr ⟨o, e _ _ h⟩)
  · exact .inr h
instance {α : Type} [Py α] : Py (List α) := ⟨fun K S v xs => ∃ p vs, v = .ref p ∧ S p = some (.lst vs) ∧ RepL K S vs xs, fun e ⟨p, vs, h1, h2, h3⟩ => ⟨p, vs, h1, e _ _ h2, h3.mono e⟩⟩
structure Tp (α : Type) where
  l : List α
  deriving DecidableEq
instance {α : Type} [Py α] : Py (Tp α) := ⟨fun K S v xs => ∃ p vs, v = .ref p ∧ SqT K S p vs ∧ RepL K S vs xs.l, fun e ⟨p, vs, h1, h2, h3⟩ => ⟨p, vs, h1, seqT e h2, h3.mono e⟩⟩
instance {α β : Type} [Py α] [Py β] : Py (α × β) := ⟨fun K S v x => ∃ p a b, v = .ref p ∧ SqT K S p [a, b] ∧ Py.rep K S a x.1 ∧ Py.rep K S b x.2, fun e ⟨p, a, b, h1, h2, h3, h4⟩ => ⟨p, a, b, h1, seqT e h2, Py.mono e h3, Py.mono e h4⟩⟩
structure T3 (α β γ : Type) where
  a : α
  b : β
  c : γ
  deriving DecidableEq
instance {α β γ : Type} [Py α] [Py β] [Py γ] : Py (T3 α β γ) := ⟨fun K S v x => ∃ p a b c, v = .ref p ∧ SqT K S p [a, b, c] ∧ Py.rep K S a x.a ∧ Py.rep K S b x.b ∧ Py.rep K S c x.c,
  fun e ⟨p, a, b, c, h1, h2, h3, h4, h5⟩ => ⟨p, a, b, c, h1, seqT e h2, Py.mono e h3, Py.mono e h4, Py.mono e h5⟩⟩
instance {α : Type} [Py α] : Py (Option α) := ⟨fun K S v x => match x with | none => v = .non | some y => Py.rep K S v y, fun {K H H' v x} e h => by cases x with | none => exact h | some y => exact Py.mono e h⟩
instance {α β : Type} [Py α] [Py β] : Py (Sum α β) := ⟨fun K S v x => match x with | .inl y => Py.rep K S v y | .inr y => Py.rep K S v y, fun {K H H' v x} e h => by cases x with | inl y => exact Py.mono e h | inr y => exact Py.mono e h⟩
structure Scr where
  l : List Int
instance : Py Scr := ⟨fun K S v x => ∃ p, v = .ref p ∧ SqL K S p (x.l.map V.int), fun e ⟨p, h1, h2⟩ => ⟨p, h1, e.seq h2⟩⟩
structure Dct (α : Type) where
  l : List (Int × α)
namespace Dct
variable {α : Type}
def get? (d : Dct α) (k : Int) : Option α := (d.l.find? fun kv => decide (kv.1 = k)).map (·.2)
def put (d : Dct α) (k : Int) (x : α) : Dct α := ⟨if d.l.any (fun kv => decide (kv.1 = k)) then d.l.map (fun kv => if kv.1 = k then (kv.1, x) else kv) else d.l ++ [(k, x)]⟩
def del (d : Dct α) (k : Int) : Dct α := ⟨d.l.filter fun kv => decide (kv.1 ≠ k)⟩
def emp : Dct α := ⟨[]⟩
end Dct
def RepD {α : Type} [Py α] (K : Fg) (S : Hp) : List (Key × V) → List (Int × α) → Prop
  | [], [] => True
  | kv :: kvs, x :: xs => kv.1 = .inl x.1 ∧ Py.rep K S kv.2 x.2 ∧ RepD K S kvs xs
  | _, _ => False
section
variable {α : Type} [Py α] {K : Fg} {S S' : Hp}
theorem RepD.mono (e : Same S S') : ∀ {kvs : List (Key × V)} {xs : List (Int × α)}, RepD K S kvs xs → RepD K S' kvs xs
  | [], [], _ => True.intro
  | _ :: _, _ :: _, h => ⟨h.1, Py.mono e h.2.1, RepD.mono e h.2.2⟩
  | [], _ :: _, h => h.elim
  | _ :: _, [], h => h.elim
theorem RepD.len : ∀ {kvs : List (Key × V)} {xs : List (Int × α)}, RepD K S kvs xs → kvs.length = xs.length
  | [], [], _ => rfl
  | _ :: _, _ :: _, h => by rw [List.length_cons, List.length_cons, RepD.len h.2.2]
  | [], _ :: _, h => h.elim
  | _ :: _, [], h => h.elim
theorem dec_inl (a b : Int) : decide ((Sum.inl a : Key) = Sum.inl b) = decide (a = b) := by
  by_cases e : a = b
  · subst e; simp
  · rw [decide_eq_false e, decide_eq_false (fun q => e (Sum.inl.inj q))]
theorem RepD.val : ∀ {kvs : List (Key × V)} {xs : List (Int × α)} (k : Int), RepD K S kvs xs → match (xs.find? fun kv => decide (kv.1 = k)).map (·.2) with
    | some x => ∃ v, valV kvs (Sum.inl k) = some v ∧ Py.rep K S v x
    | none => valV kvs (Sum.inl k) = none
  | [], [], _, _ => rfl
  | kv :: kvs, x :: xs, k, h => by
    obtain ⟨h1, h2, h3⟩ := h
    by_cases e : x.1 = k
    · have e1 : kv.1 = Sum.inl k := by rw [h1, e]
      rw [List.find?_cons, show decide (x.1 = k) = true from decide_eq_true e]
      exact ⟨kv.2, valV_pos e1, h2⟩
    · have e1 : ¬ kv.1 = Sum.inl k := by rw [h1]; exact fun q => e (Sum.inl.inj q)
      rw [List.find?_cons, show decide (x.1 = k) = false from decide_eq_false e, valV_neg e1]
      exact RepD.val k h3
  | [], _ :: _, _, h => h.elim
  | _ :: _, [], _, h => h.elim
theorem RepD.any : ∀ {kvs : List (Key × V)} {xs : List (Int × α)} (k : Int), RepD K S kvs xs → (kvs.any fun kv => decide (kv.1 = Sum.inl k)) = xs.any fun kv => decide (kv.1 = k)
  | [], [], _, _ => rfl
  | kv :: kvs, x :: xs, k, h => by
    rw [List.any_cons, List.any_cons, RepD.any k h.2.2, h.1, dec_inl]
  | [], _ :: _, _, h => h.elim
  | _ :: _, [], _, h => h.elim
theorem RepD.repl {v : V} {y : α} (k : Int) (r : Py.rep K S v y) : ∀ {kvs : List (Key × V)} {xs : List (Int × α)}, RepD K S kvs xs →
    RepD K S (kvs.map fun kv => if kv.1 = Sum.inl k then (kv.1, v) else kv) (xs.map fun kv => if kv.1 = k then (kv.1, y) else kv)
  | [], [], _ => True.intro
  | kv :: kvs, x :: xs, h => by
    obtain ⟨h1, h2, h3⟩ := h
    rw [List.map_cons, List.map_cons]
    by_cases e : x.1 = k
    · have e1 : kv.1 = Sum.inl k := by rw [h1, e]
      rw [if_pos e1, if_pos e]
      exact ⟨h1, r, RepD.repl k r h3⟩
    · have e1 : ¬ kv.1 = Sum.inl k := by rw [h1]; exact fun q => e (Sum.inl.inj q)
      rw [if_neg e1, if_neg e]
      exact ⟨h1, h2, RepD.repl k r h3⟩
  | [], _ :: _, h => h.elim
  | _ :: _, [], h => h.elim
theorem RepD.snoc {v : V} {y : α} (k : Int) (r : Py.rep K S v y) : ∀ {kvs : List (Key × V)} {xs : List (Int × α)}, RepD K S kvs xs → RepD K S (kvs ++ [(Sum.inl k, v)]) (xs ++ [(k, y)])
  | [], [], _ => ⟨rfl, r, True.intro⟩
  | _ :: _, _ :: _, h => ⟨h.1, h.2.1, RepD.snoc k r h.2.2⟩
  | [], _ :: _, h => h.elim
  | _ :: _, [], h => h.elim
theorem RepD.put {v : V} {y : α} (k : Int) (r : Py.rep K S v y) {kvs : List (Key × V)} {d : Dct α} (h : RepD K S kvs d.l) : RepD K S (putK kvs (Sum.inl k) v) (d.put k y).l := by
  unfold putK Dct.put
  rw [h.any k]
  by_cases e : (d.l.any fun kv => decide (kv.1 = k)) = true
  · rw [if_pos e, if_pos e]
    exact h.repl k r
  · rw [if_neg e, if_neg e]
    exact h.snoc k r
theorem RepD.del (k : Int) : ∀ {kvs : List (Key × V)} {xs : List (Int × α)}, RepD K S kvs xs → RepD K S (dropK kvs (Sum.inl k)) (xs.filter fun kv => decide (kv.1 ≠ k))
  | [], [], _ => True.intro
  | kv :: kvs, x :: xs, h => by
    obtain ⟨h1, h2, h3⟩ := h
    have ih := RepD.del k h3
    by_cases e : x.1 = k
    · have e1 : kv.1 = Sum.inl k := by rw [h1, e]
      rw [dropK_pos e1, List.filter_cons, if_neg (by simp [e])]
      exact ih
    · have e1 : ¬ kv.1 = Sum.inl k := by rw [h1]; exact fun q => e (Sum.inl.inj q)
      rw [dropK_neg e1, List.filter_cons, if_pos (by simp [e])]
      exact ⟨h1, h2, ih⟩
  | [], _ :: _, h => h.elim
  | _ :: _, [], h => h.elim
end
instance {α : Type} [Py α] : Py (Dct α) := ⟨fun K S v d => ∃ p kvs, v = .ref p ∧ S p = some (.dK kvs) ∧ RepD K S kvs d.l, fun e ⟨p, vs, h1, h2, h3⟩ => ⟨p, vs, h1, e _ _ h2, h3.mono e⟩⟩
class Own (α : Type) where
  own : Fg → Hp → Hp → V → List Addr → α → Prop
  mono : ∀ {K : Fg} {S S' H H' : Hp} {v : V} {ps : List Addr} {x : α}, Same S S' → (∀ p ∈ ps, H' p = H p) → own K S H v ps x → own K S' H' v ps x
instance {α : Type} [Py α] : Own (List α) := ⟨fun K S H v ps xs => ∃ p vs, v = .ref p ∧ ps = [p] ∧ H p = some (.lst vs) ∧ RepL K S vs xs, fun {K S S' H H' v ps x} e a ⟨p, vs, h1, h2, h3, h4⟩ =>
  ⟨p, vs, h1, h2, by rw [a p (by rw [h2]; exact List.mem_singleton.mpr rfl)]; exact h3, h4.mono e⟩⟩
instance {α : Type} [Py α] : Own (Dct α) := ⟨fun K S H v ps d => ∃ p kvs, v = .ref p ∧ ps = [p] ∧ H p = some (.dK kvs) ∧ RepD K S kvs d.l, fun {K S S' H H' v ps x} e a ⟨p, vs, h1, h2, h3, h4⟩ =>
  ⟨p, vs, h1, h2, by rw [a p (by rw [h2]; exact List.mem_singleton.mpr rfl)]; exact h3, h4.mono e⟩⟩
structure Spr where
  a : Addr
  z : Int
instance : Own Spr := ⟨fun K S H v ps x => v = .ref x.a ∧ ps = [x.a] ∧ H x.a = some (.lst [.int x.z]), fun {K S S' H H' v ps x} e a ⟨h1, h2, h3⟩ =>
  ⟨h1, h2, by rw [a x.a (by rw [h2]; exact List.mem_singleton.mpr rfl)]; exact h3⟩⟩
class Anch (ω : Type) [Own ω] where
  fp : ω → V × List Addr
  at_ : ∀ {K : Fg} {S H : Hp} {v : V} {ps : List Addr} {x : ω}, Own.own K S H v ps x → (v, ps) = fp x
instance : Anch Spr := ⟨fun x => (.ref x.a, [x.a]), fun ⟨h1, h2, _⟩ => by rw [h1, h2]⟩
inductive Sl : Type 1
  | no
  | im {α : Type} [Py α] (x : α)
  | ow {α : Type} [Own α] (x : α)
def SlOk (K : Fg) (S H : Hp) (sv : Option (Option V)) (ps : List Addr) : Sl → Prop
  | .no => True
  | @Sl.im _ inst x => ∃ v, sv = some (some v) ∧ inst.rep K S v x
  | @Sl.ow _ inst x => ∃ v, sv = some (some v) ∧ inst.own K S H v ps x
structure Kn (K : Fg) (B S0 S : Hp) (σ : St) (H : Hp) (F : Nat → List Addr) (G : List Sl) : Prop where
  s0 : Same S0 S
  sub : Same S H
  keep : Same B H
  clean : ∀ p o, B p = some o → S p = S0 p
  off : ∀ i p, p ∈ F i → S p = none ∧ B p = none ∧ ∃ o, H p = some o
  dj : ∀ i j p, p ∈ F i → p ∈ F j → i = j
  len : G.length = σ.length
  sl : ∀ i s, G[i]? = some s → SlOk K S H σ[i]? (F i) s
structure Grow (S H S' H' : Hp) : Prop where
  s : Same S S'
  sub : Same S' H'
  h : Same H H'
  cl : ∀ p o, H p = some o → S' p = S p
theorem Grow.refl {S H : Hp} (e : Same S H) : Grow S H S H := ⟨Same.refl _, e, Same.refl _, fun _ _ _ => rfl⟩
theorem Grow.trans {S H S1 H1 S2 H2 : Hp} (a : Grow S H S1 H1) (b : Grow S1 H1 S2 H2) : Grow S H S2 H2 :=
  ⟨a.s.trans b.s, b.sub, a.h.trans b.h, fun p o e => (b.cl p o (a.h p o e)).trans (a.cl p o e)⟩
theorem same_new {H : Hp} {p : Addr} {o : HO} (h : H p = none) : Same H (upd H p o) := fun b x e => by
  rw [upd_ne (ne_of_none e h)]
  exact e
theorem Grow.new {S H : Hp} {p : Addr} {o : HO} (e : Same S H) (h : H p = none) : Grow S H (upd S p o) (upd H p o) := by
  refine ⟨same_new (e.free h), fun b x q => ?_, same_new h, fun b x q => upd_ne (ne_of_none q h)⟩
  by_cases hb : b = p
  · subst hb
    rw [upd_same] at q ⊢
    exact q
  · rw [upd_ne hb] at q ⊢
    exact e b x q
theorem Grow.raw {S H : Hp} {p : Addr} {o : HO} (e : Same S H) (h : H p = none) : Grow S H S (upd H p o) := ⟨Same.refl _, e.trans (same_new h), same_new h, fun _ _ _ => rfl⟩
section
variable {K : Fg} {B S0 S S' : Hp} {σ : St} {H H' : Hp} {F : Nat → List Addr} {G : List Sl}
theorem Kn.grow (k : Kn K B S0 S σ H F G) (g : Grow S H S' H') : Kn K B S0 S' σ H' F G := by
  refine ⟨k.s0.trans g.s, g.sub, k.keep.trans g.h, fun p o e => (g.cl p o (k.keep p o e)).trans (k.clean p o e), fun i p hp => ?_, k.dj, k.len, fun i s e => ?_⟩
  · obtain ⟨h1, h2, o, h3⟩ := k.off i p hp
    exact ⟨(g.cl p o h3).trans h1, h2, o, g.h p o h3⟩
  · have q := k.sl i s e
    cases s with
    | no => exact True.intro
    | im x =>
      obtain ⟨v, h1, h2⟩ := q
      exact ⟨v, h1, Py.mono g.s h2⟩
    | ow x =>
      obtain ⟨v, h1, h2⟩ := q
      refine ⟨v, h1, Own.mono g.s (fun p hp => ?_) h2⟩
      obtain ⟨_, _, o, h3⟩ := k.off i p hp
      rw [h3]
      exact g.h p o h3
theorem Kn.new {p : Addr} {o : HO} (k : Kn K B S0 S σ H F G) (h : H p = none) : Kn K B S0 (upd S p o) σ (upd H p o) F G := k.grow (Grow.new k.sub h)
theorem Kn.raw {p : Addr} {o : HO} (k : Kn K B S0 S σ H F G) (h : H p = none) : Kn K B S0 S σ (upd H p o) F G := k.grow (Grow.raw k.sub h)
theorem Kn.settle {p : Addr} {o : HO} (k : Kn K B S0 S σ H F G) (h : H p = some o) (hs : S p = none) (hb : B p = none) (hf : ∀ i, p ∉ F i) : Kn K B S0 (upd S p o) σ H F G := by
  have e : Same S (upd S p o) := same_new hs
  refine ⟨k.s0.trans e, fun b x q => ?_, k.keep, fun b x q => ?_, fun i b hb' => ?_, k.dj, k.len, fun i s q => ?_⟩
  · by_cases hbp : b = p
    · subst hbp
      rw [upd_same] at q
      rw [h, q]
    · rw [upd_ne hbp] at q
      exact k.sub b x q
  · rw [upd_ne (ne_of_none q hb)]
    exact k.clean b x q
  · obtain ⟨h1, h2, h3⟩ := k.off i b hb'
    have ne : b ≠ p := fun z => hf i (z ▸ hb')
    exact ⟨by rw [upd_ne ne]; exact h1, h2, h3⟩
  · have z := k.sl i s q
    cases s with
    | no => exact True.intro
    | im x =>
      obtain ⟨v, h1, h2⟩ := z
      exact ⟨v, h1, Py.mono e h2⟩
    | ow x =>
      obtain ⟨v, h1, h2⟩ := z
      exact ⟨v, h1, Own.mono e (fun _ _ => rfl) h2⟩
theorem Kn.free (k : Kn K B S0 S σ H F G) {p : Addr} (h : H p = none) : S p = none ∧ B p = none ∧ ∀ i, p ∉ F i := ⟨k.sub.free h, k.keep.free h, fun i hp => by
  obtain ⟨_, _, o, e⟩ := k.off i p hp
  rw [h] at e
  cases e⟩
theorem set_get.{u} {α : Type u} {l : List α} {i j : Nat} {x y : α} (h : (l.set i x)[j]? = some y) : (j = i ∧ y = x) ∨ (j ≠ i ∧ l[j]? = some y) := by
  by_cases e : j = i
  · subst e
    by_cases hl : j < l.length
    · rw [List.getElem?_set_self hl] at h
      exact .inl ⟨rfl, (Option.some.inj h).symm⟩
    · rw [List.getElem?_eq_none (by rw [List.length_set]; omega)] at h
      cases h
  · rw [List.getElem?_set_ne (fun z => e z.symm)] at h
    exact .inr ⟨e, h⟩
theorem isSome_lt.{u} {α : Type u} {l : List α} {i : Nat} (h : l[i]?.isSome = true) : i < l.length := by
  by_cases e : i < l.length
  · exact e
  · rw [List.getElem?_eq_none (by omega)] at h
    cases h
theorem Kn.set {α : Type} [Py α] {x : α} {v : V} {i : Nat} (k : Kn K B S0 S σ H F G) (r : Py.rep K S v x) (hi : G[i]?.isSome = true) : Kn K B S0 S (σ.set i (some v)) H F (G.set i (.im x)) := by
  have hl := isSome_lt hi
  refine ⟨k.s0, k.sub, k.keep, k.clean, k.off, k.dj, by rw [List.length_set, List.length_set]; exact k.len, fun j s e => ?_⟩
  rcases set_get e with ⟨rfl, rfl⟩ | ⟨ne, e⟩
  · exact ⟨v, List.getElem?_set_self (by rw [← k.len]; exact hl), r⟩
  · rw [List.getElem?_set_ne (fun z => ne z.symm)]
    exact k.sl j s e
theorem Kn.setNo {v : Option V} {i : Nat} (k : Kn K B S0 S σ H F G) : Kn K B S0 S (σ.set i v) H F (G.set i .no) := by
  refine ⟨k.s0, k.sub, k.keep, k.clean, k.off, k.dj, by rw [List.length_set, List.length_set]; exact k.len, fun j s e => ?_⟩
  rcases set_get e with ⟨rfl, rfl⟩ | ⟨ne, e⟩
  · exact True.intro
  · rw [List.getElem?_set_ne (fun z => ne z.symm)]
    exact k.sl j s e
def upF (F : Nat → List Addr) (i : Nat) (ps : List Addr) : Nat → List Addr := fun j => if j = i then ps else F j
theorem upF_self {i : Nat} {ps : List Addr} : upF F i ps i = ps := if_pos rfl
theorem upF_ne {i j : Nat} {ps : List Addr} (h : j ≠ i) : upF F i ps j = F j := if_neg h
theorem Kn.setOwn {α : Type} [Own α] {x : α} {v : V} {i : Nat} {p : Addr} (k : Kn K B S0 S σ H F G) (r : Own.own K S H v [p] x) (hi : G[i]?.isSome = true) (hs : S p = none) (hb : B p = none) (hp : ∃ o, H p = some o) (hf : ∀ j, p ∉ F j) :
    Kn K B S0 S (σ.set i (some v)) H (upF F i [p]) (G.set i (.ow x)) := by
  have hl := isSome_lt hi
  refine ⟨k.s0, k.sub, k.keep, k.clean, fun j q hq => ?_, fun a b q ha hb' => ?_, by rw [List.length_set, List.length_set]; exact k.len, fun j s e => ?_⟩
  · by_cases e : j = i
    · subst e
      rw [upF_self] at hq
      cases List.mem_singleton.mp hq
      exact ⟨hs, hb, hp⟩
    · rw [upF_ne e] at hq
      exact k.off j q hq
  · by_cases ea : a = i
    · by_cases eb : b = i
      · rw [ea, eb]
      · rw [ea, upF_self] at ha
        rw [upF_ne eb] at hb'
        cases List.mem_singleton.mp ha
        exact absurd hb' (hf b)
    · rw [upF_ne ea] at ha
      by_cases eb : b = i
      · rw [eb, upF_self] at hb'
        cases List.mem_singleton.mp hb'
        exact absurd ha (hf a)
      · rw [upF_ne eb] at hb'
        exact k.dj a b q ha hb'
  · rcases set_get e with ⟨rfl, rfl⟩ | ⟨ne, e⟩
    · rw [upF_self]
      exact ⟨v, List.getElem?_set_self (by rw [← k.len]; exact hl), r⟩
    · rw [List.getElem?_set_ne (fun z => ne z.symm), upF_ne ne]
      exact k.sl j s e
theorem Kn.mut {α : Type} [Own α] {x : α} {v : V} {i : Nat} (k : Kn K B S0 S σ H F G) (hi : σ[i]? = some (some v)) (h1 : ∀ q, q ∉ F i → H' q = H q) (h2 : ∀ q ∈ F i, ∃ o, H' q = some o) (r : Own.own K S H' v (F i) x) :
    Kn K B S0 S σ H' F (G.set i (.ow x)) := by
  refine ⟨k.s0, fun q o e => ?_, fun q o e => ?_, k.clean, fun j q hq => ?_, k.dj, by rw [List.length_set]; exact k.len, fun j s e => ?_⟩
  · rw [h1 q fun z => by rw [(k.off i q z).1] at e; cases e]
    exact k.sub q o e
  · rw [h1 q fun z => by rw [(k.off i q z).2.1] at e; cases e]
    exact k.keep q o e
  · obtain ⟨a, b, o, c⟩ := k.off j q hq
    refine ⟨a, b, ?_⟩
    by_cases e : q ∈ F i
    · exact h2 q e
    · exact ⟨o, by rw [h1 q e]; exact c⟩
  · rcases set_get e with ⟨rfl, rfl⟩ | ⟨ne, e⟩
    · exact ⟨v, hi, r⟩
    · have z := k.sl j s e
      cases s with
      | no => exact True.intro
      | im y => exact z
      | ow y =>
        obtain ⟨u, a, b⟩ := z
        exact ⟨u, a, Own.mono (Same.refl _) (fun p hp => h1 p fun w => ne (k.dj j i p hp w)) b⟩
inductive Le : List Sl → List Sl → Prop
  | n : Le [] []
  | k {s : Sl} {G G' : List Sl} : Le G G' → Le (s :: G) (s :: G')
  | d {s : Sl} {G G' : List Sl} : Le G G' → Le (.no :: G) (s :: G')
theorem Le.get : ∀ {G G' : List Sl} {i : Nat} {s : Sl}, Le G G' → G[i]? = some s → s = .no ∨ G'[i]? = some s
  | _, _, _, _, .n, e => by simp at e
  | _, _, 0, s, .k _, e => .inr e
  | _, _, 0, s, .d _, e => .inl (Option.some.inj (by simpa using e)).symm
  | _, _, i + 1, s, .k h, e => by simpa using Le.get (i := i) h (by simpa using e)
  | _, _, i + 1, s, .d h, e => by simpa using Le.get (i := i) h (by simpa using e)
theorem Le.length : ∀ {G G' : List Sl}, Le G G' → G.length = G'.length
  | _, _, .n => rfl
  | _, _, .k h => by rw [List.length_cons, List.length_cons, h.length]
  | _, _, .d h => by rw [List.length_cons, List.length_cons, h.length]
theorem Le.refl : ∀ (G : List Sl), Le G G
  | [] => .n
  | _ :: G => .k (Le.refl G)
theorem Kn.le {G' : List Sl} (k : Kn K B S0 S σ H F G) (h : Le G' G) : Kn K B S0 S σ H F G' :=
  ⟨k.s0, k.sub, k.keep, k.clean, k.off, k.dj, h.length.trans k.len, fun i s e => by
    rcases h.get e with rfl | e
    · exact True.intro
    · exact k.sl i s e⟩
theorem Kn.im {α : Type} [Py α] {x : α} {i : Nat} (k : Kn K B S0 S σ H F G) (h : G[i]? = some (.im x)) : ∃ v, σ[i]? = some (some v) ∧ Py.rep K S v x := k.sl i _ h
theorem Kn.ow {α : Type} [Own α] {x : α} {i : Nat} (k : Kn K B S0 S σ H F G) (h : G[i]? = some (.ow x)) : ∃ v, σ[i]? = some (some v) ∧ Own.own K S H v (F i) x := k.sl i _ h
theorem Kn.relL {α : Type} [Py α] {x : List α} {i : Nat} (k : Kn K B S0 S σ H F G) (h : G[i]? = some (.ow x)) : ∃ S', Same S S' ∧ Kn K B S0 S' σ H (upF F i []) (G.set i (.im x)) := by
  obtain ⟨v, hv, p, vs, rfl, hp, h1, h2⟩ := k.ow h
  obtain ⟨hs, hb, _⟩ := k.off i p (by rw [hp]; exact List.mem_singleton.mpr rfl)
  have k1 : Kn K B S0 S σ H (upF F i []) (G.set i .no) := by
    refine ⟨k.s0, k.sub, k.keep, k.clean, fun j q hq => ?_, fun a b q ha hb' => ?_, by rw [List.length_set]; exact k.len, fun j s e => ?_⟩
    · by_cases e : j = i
      · rw [e, upF_self] at hq
        cases hq
      · rw [upF_ne e] at hq
        exact k.off j q hq
    · by_cases ea : a = i
      · rw [ea, upF_self] at ha
        cases ha
      · by_cases eb : b = i
        · rw [eb, upF_self] at hb'
          cases hb'
        · rw [upF_ne ea] at ha
          rw [upF_ne eb] at hb'
          exact k.dj a b q ha hb'
    · rcases set_get e with ⟨rfl, rfl⟩ | ⟨ne, e⟩
      · exact True.intro
      · rw [upF_ne ne]
        exact k.sl j s e
  have hf : ∀ j, p ∉ upF F i [] j := fun j hj => by
    by_cases e : j = i
    · rw [e, upF_self] at hj
      cases hj
    · rw [upF_ne e] at hj
      exact e (k.dj j i p hj (by rw [hp]; exact List.mem_singleton.mpr rfl))
  have k2 := k1.settle h1 hs hb hf
  refine ⟨upd S p (.lst vs), same_new hs, ?_⟩
  have hl : i < G.length := (List.getElem?_eq_some_iff.mp h).1
  have k3 := k2.set (i := i) (v := .ref p) (x := x) ⟨p, vs, rfl, upd_same, h2.mono (same_new hs)⟩ (by rw [List.getElem?_set_self hl]; rfl)
  have e1 : σ.set i (some (.ref p)) = σ := by
    apply List.ext_getElem?
    intro j
    by_cases e : i = j
    · subst e
      rw [List.getElem?_set_self (by rw [← k.len]; exact hl)]
      exact hv.symm
    · rw [List.getElem?_set_ne e]
  rw [e1, List.set_set] at k3
  exact k3
end
end GL
namespace GL
open PySem L2
section
variable {α : Type}
def EvX [Py α] (K : Fg) (te : TE) (G : List Sl) (x : α) (G' : List Sl) : Prop :=
  ∀ B S0 S σ H F, Kn K B S0 S σ H F G → ∀ Q : VK, (∀ v S' H', Same S S' → Kn K B S0 S' σ H' F G' → Py.rep K S' v x → Q v H') → te σ H Q
def EvL [Py α] (K : Fg) (te : TE) (G : List Sl) (xs : List α) (G' : List Sl) : Prop :=
  ∀ B S0 S σ H F, Kn K B S0 S σ H F G → ∀ Q : VK, (∀ p vs S' H', Same S S' → Kn K B S0 S' σ H' F G' → S' p = none → B p = none → (∀ j, p ∉ F j) → H' p = some (.lst vs) → RepL K S' vs xs → Q (.ref p) H') → te σ H Q
def Rdl [Py α] (K : Fg) (S : Hp) (σ : St) (G : List Sl) (v : V) (xs : List α) : Prop := Py.rep K S v xs ∨ ∃ i : Nat, σ[i]? = some (some v) ∧ G[i]? = some (Sl.ow xs)
def EvC [Py α] (K : Fg) (te : TE) (G : List Sl) (xs : List α) (G' : List Sl) : Prop :=
  ∀ B S0 S σ H F, Kn K B S0 S σ H F G → ∀ Q : VK, (∀ v S' H', Same S S' → Kn K B S0 S' σ H' F G' → Rdl K S' σ G' v xs → Q v H') → te σ H Q
def Rdd [Py α] (K : Fg) (S : Hp) (σ : St) (G : List Sl) (v : V) (xs : Dct α) : Prop := Py.rep K S v xs ∨ ∃ i : Nat, σ[i]? = some (some v) ∧ G[i]? = some (Sl.ow xs)
def EvD [Py α] (K : Fg) (te : TE) (G : List Sl) (xs : Dct α) (G' : List Sl) : Prop :=
  ∀ B S0 S σ H F, Kn K B S0 S σ H F G → ∀ Q : VK, (∀ v S' H', Same S S' → Kn K B S0 S' σ H' F G' → Rdd K S' σ G' v xs → Q v H') → te σ H Q
def EvLs [Py α] (K : Fg) (ta : TA) (G : List Sl) (xs : List α) (G' : List Sl) : Prop :=
  ∀ B S0 S σ H F, Kn K B S0 S σ H F G → ∀ Q : List V → Hp → Prop, (∀ vs S' H', Same S S' → Kn K B S0 S' σ H' F G' → RepL K S' vs xs → Q vs H') → ta σ H Q
class PyA (α : Type) where
  rep : Fg → Hp → List V → α → Prop
  mono : ∀ {K : Fg} {H H' : Hp} {vs : List V} {x : α}, Same H H' → rep K H vs x → rep K H' vs x
  n : Nat
  len : ∀ {K : Fg} {H : Hp} {vs : List V} {x : α}, rep K H vs x → vs.length = n
instance : PyA Unit := ⟨fun _ _ vs _ => vs = [], fun _ h => h, 0, fun h => by rw [h]; rfl⟩
instance {β : Type} [Py α] [PyA β] : PyA (α × β) := ⟨fun K S vs x => ∃ v ws, vs = v :: ws ∧ Py.rep K S v x.1 ∧ PyA.rep K S ws x.2, fun e ⟨v, ws, h1, h2, h3⟩ => ⟨v, ws, h1, Py.mono e h2, PyA.mono e h3⟩,
  PyA.n β + 1, fun ⟨v, ws, h1, h2, h3⟩ => by rw [h1, List.length_cons, PyA.len h3]⟩
def EvA [PyA α] (K : Fg) (ta : TA) (G : List Sl) (x : α) (G' : List Sl) : Prop :=
  ∀ B S0 S σ H F, Kn K B S0 S σ H F G → ∀ Q : List V → Hp → Prop, (∀ vs S' H', Same S S' → Kn K B S0 S' σ H' F G' → PyA.rep K S' vs x → Q vs H') → ta σ H Q
end
def EvT (K : Fg) (tt : TT) (G : List Sl) (b : Bool) (G' : List Sl) : Prop :=
  ∀ B S0 S σ H F, Kn K B S0 S σ H F G → ∀ Q : Bool → Hp → Prop, (∀ S' H', Same S S' → Kn K B S0 S' σ H' F G' → Q b H') → tt σ H Q
def At (K : Fg) (B S0 : Hp) (P : St → Hp → Prop) (G : List Sl) : Prop := ∀ S σ H F, Kn K B S0 S σ H F G → P σ H
def RT {α : Type} [Py α] (K : Fg) (B S0 : Hp) (rt : VK) (x : α) (G : List Sl) : Prop := ∀ S σ H F v, Kn K B S0 S σ H F G → Py.rep K S v x → rt v H
structure Reb (B S0 S1 : Hp) : Prop where
  s : Same S0 S1
  c : ∀ p o, B p = some o → S1 p = S0 p
theorem Reb.refl {B S0 : Hp} : Reb B S0 S0 := ⟨Same.refl _, fun _ _ _ => rfl⟩
theorem Reb.trans {B S0 S1 S2 : Hp} (a : Reb B S0 S1) (b : Reb B S1 S2) : Reb B S0 S2 := ⟨a.s.trans b.s, fun p o e => (b.c p o e).trans (a.c p o e)⟩
section
variable {K : Fg} {B S0 S1 S S' : Hp} {σ : St} {H H' : Hp} {F : Nat → List Addr} {G G' : List Sl}
theorem Kn.unreb (r : Reb B S0 S1) (k : Kn K B S1 S σ H F G) : Kn K B S0 S σ H F G :=
  ⟨r.s.trans k.s0, k.sub, k.keep, fun p o e => (k.clean p o e).trans (r.c p o e), k.off, k.dj, k.len, k.sl⟩
theorem Kn.reb (k : Kn K B S0 S σ H F G) : Kn K B S S σ H F G := ⟨Same.refl _, k.sub, k.keep, fun _ _ _ => rfl, k.off, k.dj, k.len, k.sl⟩
theorem Kn.rebOf (k : Kn K B S0 S σ H F G) : Reb B S0 S := ⟨k.s0, k.clean⟩
theorem At.reb {P : St → Hp → Prop} (r : Reb B S0 S1) (h : At K B S0 P G) : At K B S1 P G := fun S σ H F k => h S σ H F (k.unreb r)
theorem RT.reb {α : Type} [Py α] {rt : VK} {x : α} (r : Reb B S0 S1) (h : RT K B S0 rt x G) : RT K B S1 rt x G := fun S σ H F v k q => h S σ H F v (k.unreb r) q
def Mid (K : Fg) (B S0 : Hp) (P : List Sl → Prop) (σ : St) (H : Hp) : Prop := ∃ S F G, Kn K B S0 S σ H F G ∧ P G
theorem at_mid {P : List Sl → Prop} (h : Le G' G) (p : P G') : At K B S0 (Mid K B S0 P) G := fun S σ H F k => ⟨S, F, G', k.le h, p⟩
theorem at_le {P : St → Hp → Prop} (h : Le G' G) (q : At K B S0 P G') : At K B S0 P G := fun S σ H F k => q S σ H F (k.le h)
theorem at_relL {α : Type} [Py α] {x : List α} {i : Nat} {P : St → Hp → Prop} (h : G[i]? = some (.ow x)) (q : At K B S0 P (G.set i (.im x))) : At K B S0 P G := fun S σ H F k => by
  obtain ⟨S', _, k'⟩ := k.relL h
  exact q S' σ H _ k'
section
variable {α : Type} [Py α]
theorem Rdl.at {v : V} {xs : List α} (h : Rdl K S σ G v xs) (k : Kn K B S0 S σ H F G) : ∃ p vs, v = .ref p ∧ H p = some (.lst vs) ∧ RepL K S vs xs := by
  rcases h with ⟨p, vs, h1, h2, h3⟩ | ⟨i, h1, h2⟩
  · exact ⟨p, vs, h1, k.sub _ _ h2, h3⟩
  · obtain ⟨w, e, p, vs, q1, q2, q3, q4⟩ := k.ow h2
    rw [h1] at e
    cases e
    exact ⟨p, vs, q1, q3, q4⟩
theorem Rdl.mono {v : V} {xs : List α} (e : Same S S') (h : Rdl K S σ G v xs) : Rdl K S' σ G v xs := h.elim (fun h => .inl (Py.mono e h)) .inr
theorem Rdd.at {v : V} {xs : Dct α} (h : Rdd K S σ G v xs) (k : Kn K B S0 S σ H F G) : ∃ p kvs, v = .ref p ∧ H p = some (.dK kvs) ∧ RepD K S kvs xs.l := by
  rcases h with ⟨p, vs, h1, h2, h3⟩ | ⟨i, h1, h2⟩
  · exact ⟨p, vs, h1, k.sub _ _ h2, h3⟩
  · obtain ⟨w, e, p, vs, q1, q2, q3, q4⟩ := k.ow h2
    rw [h1] at e
    cases e
    exact ⟨p, vs, q1, q3, q4⟩
theorem Rdd.mono {v : V} {xs : Dct α} (e : Same S S') (h : Rdd K S σ G v xs) : Rdd K S' σ G v xs := h.elim (fun h => .inl (Py.mono e h)) .inr
end
section
variable {α β γ : Type} [Py α] [Py β] [Py γ] {G1 G2 G3 : List Sl} {ta tb tc te : TE} {x : α} {y : β} {z : γ} {i j : Nat}
theorem ev_var (h : G[i]? = some (.im x)) : EvX K (tVar i) G x G := fun B S0 S σ H F k Q q => by
  obtain ⟨v, h1, h2⟩ := k.im h
  exact ⟨v, h1, q v S H (Same.refl _) k h2⟩
theorem ev_int {n : Int} : EvX K (tC (.int n)) G n G := fun B S0 S σ H F k Q q => q _ S H (Same.refl _) k rfl
theorem ev_bl {n : Bool} : EvX K (tC (.bl n)) G n G := fun B S0 S σ H F k Q q => q _ S H (Same.refl _) k rfl
theorem ev_str {n : Str} : EvX K (tC (.str n)) G n G := fun B S0 S σ H F k Q q => q _ S H (Same.refl _) k rfl
theorem ev_non : EvX K (tC .non) G () G := fun B S0 S σ H F k Q q => q _ S H (Same.refl _) k rfl
theorem ev_none : EvX K (tC .non) G (none : Option α) G := fun B S0 S σ H F k Q q => q _ S H (Same.refl _) k rfl
theorem EvX.some (h : EvX K te G x G1) : EvX K te G (some x) G1 := fun B S0 S σ H F k Q q => h B S0 S σ H F k Q fun v S' H' e k' r => q v S' H' e k' r
theorem EvX.inl (h : EvX K te G x G1) : EvX K te G (Sum.inl x : Sum α β) G1 := fun B S0 S σ H F k Q q => h B S0 S σ H F k Q fun v S' H' e k' r => q v S' H' e k' r
theorem EvX.inr (h : EvX K te G y G1) : EvX K te G (Sum.inr y : Sum α β) G1 := fun B S0 S σ H F k Q q => h B S0 S σ H F k Q fun v S' H' e k' r => q v S' H' e k' r
theorem EvX.is {x' : α} (h : EvX K te G x G1) (e : x = x') : EvX K te G x' G1 := e ▸ h
theorem EvX.c {xs : List α} (h : EvX K te G xs G1) : EvC K te G xs G1 := fun B S0 S σ H F k Q q => h B S0 S σ H F k Q fun v S' H' e k' r => q v S' H' e k' (.inl r)
theorem EvX.d {xs : Dct α} (h : EvX K te G xs G1) : EvD K te G xs G1 := fun B S0 S σ H F k Q q => h B S0 S σ H F k Q fun v S' H' e k' r => q v S' H' e k' (.inl r)
theorem ec_own {xs : List α} (h : G[i]? = some (.ow xs)) : EvC K (tVar i) G xs G := fun B S0 S σ H F k Q q => by
  obtain ⟨v, h1, h2⟩ := k.ow h
  exact ⟨v, h1, q v S H (Same.refl _) k (.inr ⟨i, h1, h⟩)⟩
theorem EvL.ev {xs : List α} (h : EvL K te G xs G1) : EvX K te G xs G1 := fun B S0 S σ H F k Q q => h B S0 S σ H F k Q fun p vs S' H' e k' hs hb hf hp r =>
  q _ (upd S' p (.lst vs)) H' (e.trans (same_new hs)) (k'.settle hp hs hb hf) ⟨p, vs, rfl, upd_same, r.mono (same_new hs)⟩
theorem EvL.c {xs : List α} (h : EvL K te G xs G1) : EvC K te G xs G1 := h.ev.c
theorem ev_i0 {f : Int → Int → Int} {a b : Int} (ha : EvX K ta G a G1) (hb : EvX K tb G1 b G2) : EvX K (tOp (rI0 fun i j => .int (f i j)) ta tb) G (f a b) G2 := fun B S0 S σ H F k Q q =>
  ha B S0 S σ H F k _ fun v S1 H1 e1 k1 r1 => hb B S0 S1 σ H1 F k1 _ fun u S2 H2 e2 k2 r2 => ⟨a, b, r1, r2, q _ S2 H2 (e1.trans e2) k2 rfl⟩
theorem ev_iC {C : Int → Int → Prop} {f : Int → Int → Int} {a b : Int} (ha : EvX K ta G a G1) (hb : EvX K tb G1 b G2) (hc : C a b) : EvX K (tOp (rI C fun i j => .int (f i j)) ta tb) G (f a b) G2 := fun B S0 S σ H F k Q q =>
  ha B S0 S σ H F k _ fun v S1 H1 e1 k1 r1 => hb B S0 S1 σ H1 F k1 _ fun u S2 H2 e2 k2 r2 => ⟨a, b, r1, r2, hc, q _ S2 H2 (e1.trans e2) k2 rfl⟩
theorem ev_b0 {f : Int → Int → Bool} {a b : Int} (ha : EvX K ta G a G1) (hb : EvX K tb G1 b G2) : EvX K (tOp (rI0 fun i j => .bl (f i j)) ta tb) G (f a b) G2 := fun B S0 S σ H F k Q q =>
  ha B S0 S σ H F k _ fun v S1 H1 e1 k1 r1 => hb B S0 S1 σ H1 F k1 _ fun u S2 H2 e2 k2 r2 => ⟨a, b, r1, r2, q _ S2 H2 (e1.trans e2) k2 rfl⟩
theorem ev_neg {a : Int} (ha : EvX K ta G a G1) : EvX K (tUn (rU fun i => .int (-i)) ta) G (-a) G1 := fun B S0 S σ H F k Q q =>
  ha B S0 S σ H F k _ fun v S1 H1 e1 k1 r1 => ⟨a, r1, q _ S1 H1 e1 k1 rfl⟩
class Sc (α : Type) [Py α] where
  val : α → V
  of : ∀ {K : Fg} {S : Hp} {v : V} {x : α}, Py.rep K S v x → v = val x
  inj : ∀ {x y : α}, val x = val y → x = y
  sc : ∀ x y : α, scal (val x) (val y) = true
instance : Sc Int := ⟨V.int, fun h => h, fun h => V.int.inj h, fun _ _ => rfl⟩
instance : Sc Bool := ⟨V.bl, fun h => h, fun h => V.bl.inj h, fun _ _ => rfl⟩
instance : Sc Str := ⟨V.str, fun h => h, fun h => V.str.inj h, fun _ _ => rfl⟩
theorem Sc.dec {δ : Type} [Py δ] [Sc δ] [DecidableEq δ] (x y : δ) : decide (Sc.val x = Sc.val y) = decide (x = y) := by
  by_cases e : x = y
  · rw [e, decide_eq_true rfl, decide_eq_true rfl]
  · rw [decide_eq_false e, decide_eq_false fun q => e (Sc.inj q)]
theorem ev_eq {δ : Type} [Py δ] [Sc δ] [DecidableEq δ] {a b : δ} (ha : EvX K ta G a G1) (hb : EvX K tb G1 b G2) : EvX K (tOp rEq ta tb) G (decide (a = b)) G2 := fun B S0 S σ H F k Q q =>
  ha B S0 S σ H F k _ fun v S1 H1 e1 k1 r1 => hb B S0 S1 σ H1 F k1 _ fun u S2 H2 e2 k2 r2 => by
    rw [Sc.of r1, Sc.of r2]
    exact ⟨Sc.sc a b, q _ S2 H2 (e1.trans e2) k2 (by rw [Sc.dec]; rfl)⟩
theorem ev_ne {δ : Type} [Py δ] [Sc δ] [DecidableEq δ] {a b : δ} (ha : EvX K ta G a G1) (hb : EvX K tb G1 b G2) : EvX K (tOp rNe ta tb) G (!decide (a = b)) G2 := fun B S0 S σ H F k Q q =>
  ha B S0 S σ H F k _ fun v S1 H1 e1 k1 r1 => hb B S0 S1 σ H1 F k1 _ fun u S2 H2 e2 k2 r2 => by
    rw [Sc.of r1, Sc.of r2]
    exact ⟨Sc.sc a b, q _ S2 H2 (e1.trans e2) k2 (by rw [Sc.dec]; rfl)⟩
section
variable {t u : TT} {b c : Bool}
theorem et_test (h : EvX K te G b G1) : EvT K (tTest te) G b G1 := fun B S0 S σ H F k Q q => h B S0 S σ H F k _ fun v S1 H1 e1 k1 r1 => ⟨b, r1, q S1 H1 e1 k1⟩
theorem et_B (h : EvX K te G b G1) : EvT K (tB te) G b G1 := fun B S0 S σ H F k Q q => h B S0 S σ H F k _ fun v S1 H1 e1 k1 r1 => ⟨b, r1, q S1 H1 e1 k1⟩
theorem et_and (h1 : EvT K t G b G) (h2 : b = true → EvT K u G c G) : EvT K (tAnd t u) G (b && c) G := fun B S0 S σ H F k Q q => h1 B S0 S σ H F k _ fun S1 H1 e1 k1 => by
  cases b with
  | true =>
    show u σ H1 Q
    exact h2 rfl B S0 S1 σ H1 F k1 Q fun S2 H2 e2 k2 => q S2 H2 (e1.trans e2) k2
  | false =>
    show Q false H1
    exact q S1 H1 e1 k1
theorem et_or (h1 : EvT K t G b G) (h2 : b = false → EvT K u G c G) : EvT K (tOr t u) G (b || c) G := fun B S0 S σ H F k Q q => h1 B S0 S σ H F k _ fun S1 H1 e1 k1 => by
  cases b with
  | true =>
    show Q true H1
    exact q S1 H1 e1 k1
  | false =>
    show u σ H1 Q
    exact h2 rfl B S0 S1 σ H1 F k1 Q fun S2 H2 e2 k2 => q S2 H2 (e1.trans e2) k2
theorem et_not (h1 : EvT K t G b G1) : EvT K (tNot t) G (!b) G1 := fun B S0 S σ H F k Q q => h1 B S0 S σ H F k _ fun S1 H1 e1 k1 => q S1 H1 e1 k1
theorem et_yes : EvT K tYes G true G := fun B S0 S σ H F k Q q => q S H (Same.refl _) k
theorem ev_andV (h1 : EvX K ta G b G) (h2 : b = true → EvX K tb G c G) : EvX K (tAndV ta tb) G (b && c) G := fun B S0 S σ H F k Q q => h1 B S0 S σ H F k _ fun v S1 H1 e1 k1 r1 => ⟨b, r1, by
  cases b with
  | true =>
    show tb σ H1 Q
    exact h2 rfl B S0 S1 σ H1 F k1 Q fun w S2 H2 e2 k2 r2 => q w S2 H2 (e1.trans e2) k2 r2
  | false =>
    show Q (.bl false) H1
    exact q _ S1 H1 e1 k1 rfl⟩
theorem ev_orV (h1 : EvX K ta G b G) (h2 : b = false → EvX K tb G c G) : EvX K (tOrV ta tb) G (b || c) G := fun B S0 S σ H F k Q q => h1 B S0 S σ H F k _ fun v S1 H1 e1 k1 r1 => ⟨b, r1, by
  cases b with
  | true =>
    show Q (.bl true) H1
    exact q _ S1 H1 e1 k1 rfl
  | false =>
    show tb σ H1 Q
    exact h2 rfl B S0 S1 σ H1 F k1 Q fun w S2 H2 e2 k2 r2 => q w S2 H2 (e1.trans e2) k2 r2⟩
theorem ev_notV (h1 : EvX K ta G b G1) : EvX K (tNotV ta) G (!b) G1 := fun B S0 S σ H F k Q q => h1 B S0 S σ H F k _ fun v S1 H1 e1 k1 r1 => ⟨b, r1, q _ S1 H1 e1 k1 rfl⟩
end
theorem els_nil : EvLs K tNil G ([] : List α) G := fun B S0 S σ H F k Q q => q [] S H (Same.refl _) k True.intro
theorem els_cons {tr : TA} {xs : List α} (h : EvX K ta G x G1) (hr : EvLs K tr G1 xs G2) : EvLs K (tCons ta tr) G (x :: xs) G2 := fun B S0 S σ H F k Q q =>
  h B S0 S σ H F k _ fun v S1 H1 e1 k1 r1 => hr B S0 S1 σ H1 F k1 _ fun vs S2 H2 e2 k2 r2 => q (v :: vs) S2 H2 (e1.trans e2) k2 ⟨Py.mono e2 r1, r2⟩
theorem ea_nil : EvA K tNil G () G := fun B S0 S σ H F k Q q => q [] S H (Same.refl _) k rfl
theorem ea_cons {δ : Type} [PyA δ] {tr : TA} {xs : δ} (h : EvX K ta G x G1) (hr : EvA K tr G1 xs G2) : EvA K (tCons ta tr) G (x, xs) G2 := fun B S0 S σ H F k Q q =>
  h B S0 S σ H F k _ fun v S1 H1 e1 k1 r1 => hr B S0 S1 σ H1 F k1 _ fun vs S2 H2 e2 k2 r2 => q (v :: vs) S2 H2 (e1.trans e2) k2 ⟨v, vs, rfl, Py.mono e2 r1, r2⟩
theorem el_lst {t : TA} {xs : List α} (h : EvLs K t G xs G1) (hl : xs.length ≤ 1000) : EvL K (tLst t) G xs G1 := fun B S0 S σ H F k Q q =>
  h B S0 S σ H F k _ fun vs S1 H1 e1 k1 r1 => ⟨by rw [r1.len]; exact Nat.le_trans hl (by decide), fun p hp => by
    obtain ⟨a, b, c⟩ := k1.free hp
    exact q p vs S1 _ e1 (k1.raw hp) a b c upd_same r1⟩
theorem ev_tp {t : TA} {xs : List α} (h : EvLs K t G xs G1) (hl : xs.length ≤ 1000) : EvX K (tTup t) G (Tp.mk xs) G1 := fun B S0 S σ H F k Q q =>
  h B S0 S σ H F k _ fun vs S1 H1 e1 k1 r1 => ⟨by rw [r1.len]; exact Nat.le_trans hl (by decide), fun p hp =>
    q (.ref p) _ _ (e1.trans (same_new (k1.free hp).1)) (k1.new hp) ⟨p, vs, rfl, SqT.of upd_same, r1.mono (same_new (k1.free hp).1)⟩⟩
theorem ev_pair (ha : EvX K ta G x G1) (hb : EvX K tb G1 y G2) : EvX K (tTup (tCons ta (tCons tb tNil))) G (x, y) G2 := fun B S0 S σ H F k Q q =>
  ha B S0 S σ H F k _ fun v S1 H1 e1 k1 r1 => hb B S0 S1 σ H1 F k1 _ fun u S2 H2 e2 k2 r2 => ⟨by show 2 ≤ sizeLine; decide, fun p hp => by
    have e3 := same_new (o := .tup [v, u]) (k2.free hp).1
    exact q (.ref p) _ _ ((e1.trans e2).trans e3) (k2.new hp) ⟨p, v, u, rfl, SqT.of upd_same, Py.mono (e2.trans e3) r1, Py.mono e3 r2⟩⟩
theorem ev_t3 (ha : EvX K ta G x G1) (hb : EvX K tb G1 y G2) (hc : EvX K tc G2 z G3) : EvX K (tTup (tCons ta (tCons tb (tCons tc tNil)))) G (T3.mk x y z) G3 := fun B S0 S σ H F k Q q =>
  ha B S0 S σ H F k _ fun v S1 H1 e1 k1 r1 => hb B S0 S1 σ H1 F k1 _ fun u S2 H2 e2 k2 r2 => hc B S0 S2 σ H2 F k2 _ fun w S3 H3 e3 k3 r3 => ⟨by show 3 ≤ sizeLine; decide, fun p hp => by
    have e4 := same_new (o := .tup [v, u, w]) (k3.free hp).1
    exact q (.ref p) _ _ (((e1.trans e2).trans e3).trans e4) (k3.new hp) ⟨p, v, u, w, rfl, SqT.of upd_same, Py.mono ((e2.trans e3).trans e4) r1, Py.mono (e3.trans e4) r2, Py.mono e4 r3⟩⟩
def ix {δ : Type} [Inhabited δ] (xs : List δ) (i : Int) : δ := xs.getD i.toNat default
theorem ix_at {δ : Type} [Inhabited δ] {xs : List δ} {i : Int} (h0 : 0 ≤ i) (h1 : i < xs.length) : xs[i.toNat]? = some (ix xs i) := by
  unfold ix
  rw [List.getD_eq_getElem?_getD]
  rw [List.getElem?_eq_getElem (by omega)]
  rfl
theorem atI_of {vs : List V} {i : Int} {v : V} (h0 : 0 ≤ i) (h : vs[i.toNat]? = some v) : atI vs i = some v := by
  have e : i = ((i.toNat : Nat) : Int) := by omega
  rw [e]
  exact atI_nat h
theorem ev_ix [Inhabited α] {xs : List α} {n : Int} (ha : EvX K ta G xs G1) (hb : EvX K tb G1 n G2) (h : 0 ≤ n ∧ n < xs.length) : EvX K (tOp (rIxL K) ta tb) G (ix xs n) G2 := fun B S0 S σ H F k Q q =>
  ha B S0 S σ H F k _ fun v S1 H1 e1 k1 r1 => hb B S0 S1 σ H1 F k1 _ fun u S2 H2 e2 k2 r2 => by
    obtain ⟨p, vs, rfl, hp, hr⟩ := Py.mono e2 r1
    obtain ⟨w, h1, h2⟩ := hr.get (ix_at h.1 h.2)
    exact ⟨p, vs, n, w, rfl, r2, SqL.of (k2.sub _ _ hp), atI_of h.1 h1, q w S2 H2 (e1.trans e2) k2 h2⟩
theorem ev_ixC [Inhabited α] {xs : List α} {n : Int} (ha : EvC K ta G xs G1) (hb : EvX K tb G1 n G1) (h : 0 ≤ n ∧ n < xs.length) : EvX K (tOp (rIxL K) ta tb) G (ix xs n) G1 := fun B S0 S σ H F k Q q =>
  ha B S0 S σ H F k _ fun v S1 H1 e1 k1 r1 => hb B S0 S1 σ H1 F k1 _ fun u S2 H2 e2 k2 r2 => by
    obtain ⟨p, vs, rfl, hp, hr⟩ := (r1.mono e2).at k2
    obtain ⟨w, h1, h2⟩ := hr.get (ix_at h.1 h.2)
    exact ⟨p, vs, n, w, rfl, r2, SqL.of hp, atI_of h.1 h1, q w S2 H2 (e1.trans e2) k2 h2⟩
theorem ev_ixT [Inhabited α] {xs : Tp α} {n : Int} (ha : EvX K ta G xs G1) (hb : EvX K tb G1 n G2) (h : 0 ≤ n ∧ n < xs.l.length) : EvX K (tOp (rIxT K) ta tb) G (ix xs.l n) G2 := fun B S0 S σ H F k Q q =>
  ha B S0 S σ H F k _ fun v S1 H1 e1 k1 r1 => hb B S0 S1 σ H1 F k1 _ fun u S2 H2 e2 k2 r2 => by
    obtain ⟨p, vs, rfl, hp, hr⟩ := Py.mono e2 r1
    obtain ⟨w, h1, h2⟩ := hr.get (ix_at h.1 h.2)
    exact ⟨p, vs, n, w, rfl, r2, seqT k2.sub hp, atI_of h.1 h1, q w S2 H2 (e1.trans e2) k2 h2⟩
theorem ev_fst {xy : α × β} (ha : EvX K ta G xy G1) : EvX K (tOp (rIxT K) ta (tC (.int 0))) G xy.1 G1 := fun B S0 S σ H F k Q q =>
  ha B S0 S σ H F k _ fun v S1 H1 e1 k1 r1 => by
    obtain ⟨p, a, b, rfl, hp, h1, h2⟩ := r1
    exact ⟨p, _, 0, a, rfl, rfl, seqT k1.sub hp, atI_nat (j := 0) rfl, q a S1 H1 e1 k1 h1⟩
theorem ev_snd {xy : α × β} (ha : EvX K ta G xy G1) : EvX K (tOp (rIxT K) ta (tC (.int 1))) G xy.2 G1 := fun B S0 S σ H F k Q q =>
  ha B S0 S σ H F k _ fun v S1 H1 e1 k1 r1 => by
    obtain ⟨p, a, b, rfl, hp, h1, h2⟩ := r1
    exact ⟨p, _, 1, b, rfl, rfl, seqT k1.sub hp, atI_nat (j := 1) rfl, q b S1 H1 e1 k1 h2⟩
theorem ev_3a {w : T3 α β γ} (ha : EvX K ta G w G1) : EvX K (tOp (rIxT K) ta (tC (.int 0))) G w.a G1 := fun B S0 S σ H F k Q q =>
  ha B S0 S σ H F k _ fun v S1 H1 e1 k1 r1 => by
    obtain ⟨p, a, b, c, rfl, hp, h1, h2, h3⟩ := r1
    exact ⟨p, _, 0, a, rfl, rfl, seqT k1.sub hp, atI_nat (j := 0) rfl, q a S1 H1 e1 k1 h1⟩
theorem ev_3b {w : T3 α β γ} (ha : EvX K ta G w G1) : EvX K (tOp (rIxT K) ta (tC (.int 1))) G w.b G1 := fun B S0 S σ H F k Q q =>
  ha B S0 S σ H F k _ fun v S1 H1 e1 k1 r1 => by
    obtain ⟨p, a, b, c, rfl, hp, h1, h2, h3⟩ := r1
    exact ⟨p, _, 1, b, rfl, rfl, seqT k1.sub hp, atI_nat (j := 1) rfl, q b S1 H1 e1 k1 h2⟩
theorem ev_3c {w : T3 α β γ} (ha : EvX K ta G w G1) : EvX K (tOp (rIxT K) ta (tC (.int 2))) G w.c G1 := fun B S0 S σ H F k Q q =>
  ha B S0 S σ H F k _ fun v S1 H1 e1 k1 r1 => by
    obtain ⟨p, a, b, c, rfl, hp, h1, h2, h3⟩ := r1
    exact ⟨p, _, 2, c, rfl, rfl, seqT k1.sub hp, atI_nat (j := 2) rfl, q c S1 H1 e1 k1 h3⟩
def rLenS (K : Fg) : List V → Hp → VK → Prop := fun xs H Q => ∃ p ys, xs = [.ref p] ∧ (SqL K H p ys ∨ SqT K H p ys) ∧ Q (.int ys.length) H
theorem call_lenG {X : Cx} : CallR X (.builtin "len") (rLenS X.K) := call_len_seq
theorem ev_len {xs : List α} (ha : EvC K ta G xs G1) : EvX K (tCB (rLenS K) (tCons ta tNil)) G (xs.length : Int) G1 := fun B S0 S σ H F k Q q =>
  ha B S0 S σ H F k _ fun v S1 H1 e1 k1 r1 => by
    obtain ⟨p, vs, rfl, hp, hr⟩ := r1.at k1
    exact ⟨p, vs, rfl, .inl (SqL.of hp), q _ S1 H1 e1 k1 (by rw [hr.len]; rfl)⟩
theorem ev_lenT {xs : Tp α} (ha : EvX K ta G xs G1) : EvX K (tCB (rLenS K) (tCons ta tNil)) G (xs.l.length : Int) G1 := fun B S0 S σ H F k Q q =>
  ha B S0 S σ H F k _ fun v S1 H1 e1 k1 r1 => by
    obtain ⟨p, vs, rfl, hp, hr⟩ := r1
    exact ⟨p, vs, rfl, .inr (seqT k1.sub hp), q _ S1 H1 e1 k1 (by rw [hr.len]; rfl)⟩
theorem ev_lenS {xs : Scr} (ha : EvX K ta G xs G1) : EvX K (tCB (rLenS K) (tCons ta tNil)) G (xs.l.length : Int) G1 := fun B S0 S σ H F k Q q =>
  ha B S0 S σ H F k _ fun v S1 H1 e1 k1 r1 => by
    obtain ⟨p, rfl, hp⟩ := r1
    exact ⟨p, _, rfl, .inl (k1.sub.seq hp), q _ S1 H1 e1 k1 (by rw [List.length_map]; rfl)⟩
def rMin2 : List V → Hp → VK → Prop := fun xs H Q => ∃ i j, xs = [.int i, .int j] ∧ Q (.int (if j < i then j else i)) H
def rMax2 : List V → Hp → VK → Prop := fun xs H Q => ∃ i j, xs = [.int i, .int j] ∧ Q (.int (if j > i then j else i)) H
def rInt1 : List V → Hp → VK → Prop := fun xs H Q => (∃ i, xs = [.int i] ∧ Q (.int i) H) ∨ ∃ k, xs = [.bl k] ∧ Q (.int (if k then 1 else 0)) H
theorem call_intG {X : Cx} : CallR X (.type "int") rInt1 := call_int1
theorem ev_intB {b : Bool} (ha : EvX K ta G b G1) : EvX K (tCB rInt1 (tCons ta tNil)) G (if b then (1 : Int) else 0) G1 := fun B S0 S σ H F k Q q =>
  ha B S0 S σ H F k _ fun v S1 H1 e1 k1 r1 => .inr ⟨b, by rw [show v = .bl b from r1], q _ S1 H1 e1 k1 rfl⟩
theorem RepD.get {δ : Type} [Py δ] {K : Fg} {S : Hp} {kvs : List (Key × V)} {d : Dct δ} {k : Int} (h : RepD K S kvs d.l) : (∀ x, d.get? k = some x → ∃ v, valV kvs (Sum.inl k) = some v ∧ Py.rep K S v x) ∧ (d.get? k = none → valV kvs (Sum.inl k) = none) := by
  have q := h.val k
  unfold Dct.get?
  constructor
  · intro x e
    rw [e] at q
    exact q
  · intro e
    rw [e] at q
    exact q
theorem RepD.isSome {δ : Type} [Py δ] {K : Fg} {S : Hp} {kvs : List (Key × V)} {d : Dct δ} (k : Int) (h : RepD K S kvs d.l) : (valV kvs (Sum.inl k)).isSome = (d.get? k).isSome := by
  obtain ⟨h1, h2⟩ := h.get (k := k)
  cases e : d.get? k with
  | none => rw [h2 e]; rfl
  | some x =>
    obtain ⟨v, h3, _⟩ := h1 x e
    rw [h3]
    rfl
def dix {δ : Type} [Inhabited δ] (d : Dct δ) (k : Int) : δ := (d.get? k).getD default
end
def spF {α β : Type} [PyA α] [Py β] (K : Fg) (f : α → β) (pre : α → Prop) : Sp := fun vs H Q _ => ∃ (S : Hp) (a : α), Same S H ∧ PyA.rep K S vs a ∧ pre a ∧ ∀ v S' H', Grow S H S' H' → Py.rep K S' v (f a) → Q v H'
def spL {α β : Type} [PyA α] [Py β] (K : Fg) (f : α → List β) (pre : α → Prop) : Sp := fun vs H Q _ => ∃ (S : Hp) (a : α), Same S H ∧ PyA.rep K S vs a ∧ pre a ∧
  ∀ p us S' H', Grow S H S' H' → H p = none → S' p = none → H' p = some (.lst us) → RepL K S' us (f a) → Q (.ref p) H'
section
variable {α β : Type} [PyA α] [Py β] {G1 : List Sl} {f : α → β} {pre : α → Prop} {a : α} {t : TA} {E : XK}
theorem ev_call (ha : EvA K t G a G1) (hp : pre a) : EvX K (tCall (spF K f pre) [] E t) G (f a) G1 := fun B S0 S σ H F k Q q =>
  ha B S0 S σ H F k _ fun vs S1 H1 e1 k1 r1 => by
    rw [List.append_nil]
    exact ⟨S1, a, k1.sub, r1, hp, fun v S2 H2 g r2 => q v S2 H2 (e1.trans g.s) (k1.grow g) r2⟩
end
end
end GL
namespace GL
open PySem L2
theorem wipe_get (σ : St) : ∀ (vs : List Nat) (k : Nat), (wipe σ vs)[k]? = if k ∈ vs ∧ k < σ.length then some none else σ[k]?
  | [], k => by simp [wipe]
  | v :: vs, k => by
    unfold wipe
    have ih := wipe_get σ vs k
    have hl := wipe_length σ vs
    by_cases e : v = k
    · subst e
      by_cases h : v < σ.length
      · rw [List.getElem?_set_self (by rw [hl]; exact h), if_pos ⟨List.mem_cons_self, h⟩]
      · rw [List.getElem?_eq_none (by rw [List.length_set, hl]; omega), if_neg (fun q => h q.2), List.getElem?_eq_none (by omega)]
    · rw [List.getElem?_set_ne e, ih]
      have : (k ∈ v :: vs) ↔ k ∈ vs := by
        simp only [List.mem_cons]
        exact ⟨fun q => q.resolve_left fun z => e z.symm, .inr⟩
      simp only [this]
theorem wipe_set {σ : St} {vs : List Nat} {j : Nat} {y : Option V} (h : j ∈ vs) : wipe (σ.set j y) vs = wipe σ vs := by
  apply List.ext_getElem?
  intro k
  rw [wipe_get, wipe_get, List.length_set]
  by_cases e : k ∈ vs ∧ k < σ.length
  · rw [if_pos e, if_pos e]
  · rw [if_neg e, if_neg e]
    by_cases ej : j = k
    · subst ej
      have : ¬ j < σ.length := fun q => e ⟨h, q⟩
      rw [List.getElem?_eq_none (by rw [List.length_set]; omega), List.getElem?_eq_none (by omega)]
    · rw [List.getElem?_set_ne ej]
def wipeG (G : List Sl) : List Nat → List Sl
  | [] => G
  | v :: vs => (wipeG G vs).set v .no
section
variable {K : Fg} {B S0 S1 S S' : Hp} {σ : St} {H H' : Hp} {F : Nat → List Addr} {G G' : List Sl}
theorem Kn.wipe (k : Kn K B S0 S σ H F G) : ∀ vs : List Nat, Kn K B S0 S (wipe σ vs) H F (wipeG G vs)
  | [] => k
  | v :: vs => (Kn.wipe k vs).setNo
theorem Kn.pin {p : Addr} {o : HO} (k : Kn K B S0 S σ H F G) (h : H p = some o) (hs : S p = none) (hf : ∀ j, p ∉ F j) : Kn K (upd B p o) S0 S σ H F G := by
  refine ⟨k.s0, k.sub, fun b x q => ?_, fun b x q => ?_, fun i b hb => ?_, k.dj, k.len, k.sl⟩
  · by_cases e : b = p
    · subst e
      rw [upd_same] at q
      rw [h, q]
    · rw [upd_ne e] at q
      exact k.keep b x q
  · by_cases e : b = p
    · subst e
      rw [hs, k.s0.free hs]
    · rw [upd_ne e] at q
      exact k.clean b x q
  · obtain ⟨h1, h2, h3⟩ := k.off i b hb
    have ne : b ≠ p := fun z => hf i (z ▸ hb)
    exact ⟨h1, by rw [upd_ne ne]; exact h2, h3⟩
theorem Kn.poke {p : Addr} {o : HO} (k : Kn K B S0 S σ H F G) (hs : S p = none) (hb : B p = none) (hf : ∀ j, p ∉ F j) : Kn K B S0 S σ (upd H p o) F G := by
  refine ⟨k.s0, fun b x q => ?_, fun b x q => ?_, k.clean, fun i b hb' => ?_, k.dj, k.len, fun i s q => ?_⟩
  · rw [upd_ne (ne_of_none q hs)]
    exact k.sub b x q
  · rw [upd_ne (ne_of_none q hb)]
    exact k.keep b x q
  · obtain ⟨h1, h2, w, h3⟩ := k.off i b hb'
    have ne : b ≠ p := fun z => hf i (z ▸ hb')
    exact ⟨h1, h2, w, by rw [upd_ne ne]; exact h3⟩
  · have z := k.sl i s q
    cases s with
    | no => exact True.intro
    | im x => exact z
    | ow x =>
      obtain ⟨v, h1, h2⟩ := z
      exact ⟨v, h1, Own.mono (Same.refl _) (fun b hb' => upd_ne fun z => hf i (z ▸ hb')) h2⟩
def TgG {α : Type} [Py α] (K : Fg) (g : TG) (x : α) (G G' : List Sl) (ts : List Nat) : Prop := (∀ j : Nat, j ∉ ts → G'[j]? = G[j]?) ∧
  ∀ B S0 S σ H F v, Kn K B S0 S σ H F G → Py.rep K S v x → ∀ Q : St → Hp → Prop, (∀ σ', Kn K B S0 S σ' H F G' → (∀ j : Nat, j ∉ ts → σ'[j]? = σ[j]?) → (∀ vs : List Nat, (∀ t ∈ ts, t ∈ vs) → L2.wipe σ' vs = L2.wipe σ vs) → Q σ' H) → g v σ H Q
section
variable {α β γ : Type} [Py α] [Py β] [Py γ] {x : α} {y : β} {z : γ} {g1 g2 g3 : TG} {G1 G2 G3 : List Sl} {t1 t2 t3 : List Nat}
theorem ne_of_notIn {j k : Nat} (h : k ∉ [j]) : j ≠ k := fun e => h (List.mem_singleton.mpr e.symm)
theorem tg_name {j : Nat} (hj : G[j]?.isSome = true) : TgG K (gName j) x G (G.set j (.im x)) [j] := ⟨fun k hk => List.getElem?_set_ne (ne_of_notIn hk), fun B S0 S σ H F v k r Q q =>
  q _ (k.set r hj) (fun k hk => List.getElem?_set_ne (ne_of_notIn hk)) fun vs hv => wipe_set (hv j (List.mem_singleton.mpr rfl))⟩
theorem notL {t1 t2 : List Nat} {j : Nat} (h : j ∉ t1 ++ t2) : j ∉ t1 ∧ j ∉ t2 := ⟨fun q => h (List.mem_append_left _ q), fun q => h (List.mem_append_right _ q)⟩
theorem tg_pair {xy : α × β} (h1 : TgG K g1 xy.1 G G1 t1) (h2 : TgG K g2 xy.2 G1 G2 t2) : TgG K (gTup K 2 (gCons g1 (gCons g2 gNil))) xy G G2 (t1 ++ t2) := ⟨fun j hj => (h2.1 j (notL hj).2).trans (h1.1 j (notL hj).1), fun B S0 S σ H F v k r Q q => by
  obtain ⟨p, a, b, rfl, hp, ra, rb⟩ := r
  refine ⟨p, [a, b], rfl, seqT k.sub hp, rfl, a, [b], rfl, h1.2 B S0 S σ H F a k ra _ fun σ1 k1 o1 w1 => ⟨b, [], rfl, h2.2 B S0 S σ1 H F b k1 rb _ fun σ2 k2 o2 w2 => ⟨rfl, q σ2 k2 (fun j hj => (o2 j (notL hj).2).trans (o1 j (notL hj).1)) fun vs hv => ?_⟩⟩⟩
  rw [w2 vs fun t ht => hv t (List.mem_append_right _ ht), w1 vs fun t ht => hv t (List.mem_append_left _ ht)]⟩
end
section
variable {α β γ : Type} [Py α] [Py β] [Py γ] {x : α} {y : β} {G1 G2 : List Sl} {te ta tb : TE} {t u w : TS} {E : Ends} {tt : TT} {b : Bool} {i j : Nat} {g : TG} {ts : List Nat}
theorem q_next (h : At K B S0 E.nx G) : At K B S0 (tNext E) G := h
theorem q_asg (h : EvX K te G x G1) (hg : TgG K g x G1 G2 ts) (k : At K B S0 (u E) G2) : At K B S0 (tSeq (tAsg te g) u E) G := fun S σ H F kn =>
  h B S0 S σ H F kn _ fun v S' H' e kn' r => hg.2 B S0 S' σ H' F v kn' r _ fun σ' k2 _ _ => k S' σ' H' F k2
theorem q_set (h : EvX K te G x G1) (hi : G1[i]?.isSome = true) (k : At K B S0 (u E) (G1.set i (.im x))) : At K B S0 (tSeq (tAsg te (gName i)) u E) G := q_asg h (tg_name hi) k
theorem q_own {xs : List α} (h : EvL K te G xs G1) (hi : G1[i]?.isSome = true) (k : At K B S0 (u E) (G1.set i (.ow xs))) : At K B S0 (tSeq (tAsg te (gName i)) u E) G := fun S σ H F kn =>
  h B S0 S σ H F kn _ fun p vs S' H' e kn' hs hb hf hp r => k S' _ H' _ (kn'.setOwn (v := .ref p) ⟨p, vs, rfl, rfl, hp, r⟩ hi hs hb ⟨_, hp⟩ hf)
theorem q_ret (h : EvX K te G x G1) (k : RT K B S0 E.rt x G1) : At K B S0 (tSeq (tRet te) u E) G := fun S σ H F kn =>
  h B S0 S σ H F kn _ fun v S' H' e kn' r => k S' σ H' F v kn' r
theorem q_drop (h : EvX K te G x G1) (k : At K B S0 (u E) G1) : At K B S0 (tSeq (tDrop te) u E) G := fun S σ H F kn =>
  h B S0 S σ H F kn _ fun v S' H' e kn' r => k S' σ H' F kn'
theorem q_if (h : EvT K tt G b G1) (h1 : b = true → At K B S0 (t { E with nx := u E }) G1) (h2 : b = false → At K B S0 (w { E with nx := u E }) G1) : At K B S0 (tSeq (tIfS tt t w) u E) G := fun S σ H F kn =>
  h B S0 S σ H F kn _ fun S' H' e kn' => by
    cases b with
    | true => exact h1 rfl S' σ H' F kn'
    | false => exact h2 rfl S' σ H' F kn'
theorem q_cut (P : List Sl → Prop) (h : At K B S0 (t { E with nx := Mid K B S0 P }) G) (k : ∀ G', P G' → At K B S0 (u E) G') : At K B S0 (Evl.tCut t u E) G := fun S σ H F kn =>
  ⟨Mid K B S0 P, h S σ H F kn, fun σ' H' ⟨S', F', G', kn', p⟩ => k G' p S' σ' H' F' kn'⟩
theorem q_ifc (h : EvT K tt G b G1) (h1 : b = true → At K B S0 (t E) G1) (h2 : b = false → At K B S0 (w E) G1) : At K B S0 (tIfS tt t w E) G := fun S σ H F kn =>
  h B S0 S σ H F kn _ fun S' H' e kn' => by
    cases b with
    | true => exact h1 rfl S' σ H' F kn'
    | false => exact h2 rfl S' σ H' F kn'
theorem own_list {xs : List α} (kn : Kn K B S0 S σ H F G) (h : G[i]? = some (.ow xs)) : ∃ p vs, σ[i]? = some (some (.ref p)) ∧ F i = [p] ∧ H p = some (.lst vs) ∧ RepL K S vs xs := by
  obtain ⟨v, h1, p, vs, rfl, h2, h3, h4⟩ := kn.ow h
  exact ⟨p, vs, h1, h2, h3, h4⟩
theorem own_listUpd {xs : List α} {p : Addr} {vs : List V} (kn : Kn K B S0 S σ H F G) (h1 : σ[i]? = some (some (.ref p))) (h2 : F i = [p]) (r : RepL K S vs xs) : Kn K B S0 S σ (upd H p (.lst vs)) F (G.set i (.ow xs)) := by
  refine kn.mut h1 (fun q hq => upd_ne fun z => hq (by rw [h2, z]; exact List.mem_singleton.mpr rfl)) (fun q hq => ?_) ?_
  · rw [h2] at hq
    cases List.mem_singleton.mp hq
    exact ⟨_, upd_same⟩
  · exact ⟨p, vs, rfl, h2, upd_same, r⟩
theorem q_app {xs xs' : List α} (hl : G[i]? = some (.ow xs)) (h : EvX K te G x G1) (hl1 : G1[i]? = some (.ow xs')) (hz : xs'.length < sizeLine) (k : At K B S0 (u E) (G1.set i (.ow (xs' ++ [x])))) :
    At K B S0 (tSeq (tDrop (tBM K "list" rAppend (tVar i) (tCons te tNil))) u E) G := fun S σ H F kn => by
  obtain ⟨p, vs, h1, h2, h3, h4⟩ := own_list kn hl
  refine ⟨.ref p, h1, .inl ⟨rfl, _, SqL.of h3⟩, h B S0 S σ H F kn _ fun v S' H' e kn' r => ?_⟩
  obtain ⟨p', vs', h1', h2', h3', h4'⟩ := own_list kn' hl1
  rw [h1] at h1'
  cases h1'
  exact ⟨p, vs', v, rfl, rfl, h3', by rw [h4'.len]; exact hz, k S' σ _ F (own_listUpd kn' h1 h2' (h4'.snoc r))⟩
theorem q_setL {xs : List α} {n : Int} (h : EvX K te G x G1) (hi : EvX K tb G1 n G2) (hl1 : G1[i]? = some (.ow xs)) (hl : G2[i]? = some (.ow xs)) (hn : 0 ≤ n ∧ n < xs.length) (k : At K B S0 (u E) (G2.set i (.ow (xs.set n.toNat x)))) :
    At K B S0 (tSeq (tAsg te (gSub (tVar i) tb rSetL)) u E) G := fun S σ H F kn =>
  h B S0 S σ H F kn _ fun v S1 H1 e1 k1 r1 => by
    obtain ⟨p, vs, h1, h2, h3, h4⟩ := own_list k1 hl1
    refine ⟨.ref p, h1, hi B S0 S1 σ H1 F k1 _ fun w S2 H2 e2 k2 r2 => ?_⟩
    obtain ⟨p', vs', h1', h2', h3', h4'⟩ := own_list k2 hl
    rw [h1] at h1'
    cases h1'
    refine ⟨p, vs', n, n.toNat, rfl, r2, h3', ?_, k S2 σ _ F (own_listUpd k2 h1 h2' (h4'.set (Py.mono e2 r1)))⟩
    unfold ixN
    rw [if_pos hn.1, if_pos (by rw [h4'.len]; exact hn.2)]
end
def Wk {α : Type} [Py α] (K : Fg) (J : It) (S : Hp) (xs : List α) : Prop := ∀ S' H' i, Same S S' → Same S' H' →
  (∀ x, xs[i]? = some x → J.go i H' ∧ ∀ v H'', J.yld i H' v H'' → ∃ S'', Grow S' H' S'' H'' ∧ Py.rep K S'' v x) ∧ (xs.length ≤ i → J.stop i H')
def ItG {α : Type} [Py α] (K : Fg) (wi : TI) (G : List Sl) (xs : List α) (G' : List Sl) : Prop :=
  ∀ B S0 S σ H F, Kn K B S0 S σ H F G → ∀ R : It → Hp → Prop, (∀ J S' H', Same S S' → Kn K B S0 S' σ H' F G' → Wk K J S' xs → R J H') → wi σ H R
def rng (a b : Int) : List Int := (List.range (b - a).toNat).map fun (i : Nat) => a + (i : Int)
def enumI {α : Type} (xs : List α) : List (Int × α) := (xs.zipIdx).map fun p => ((p.2 : Int), p.1)
section
variable {α β : Type} [Py α] [Py β] {G1 G2 : List Sl} {tl ta tb : TE}
theorem wk_list {S : Hp} {p : Addr} {vs : List V} {xs : List α} (hp : S p = some (.lst vs)) (r : RepL K S vs xs) : Wk K (Itl K p) S xs := fun S' H' i e1 e2 => by
  have h1 : SqL K H' p vs := SqL.of (e2 _ _ (e1 _ _ hp))
  refine ⟨fun x hx => ?_, fun hl => ⟨vs, h1, by rw [r.len]; exact hl⟩⟩
  obtain ⟨v, hv, rv⟩ := r.get hx
  refine ⟨⟨vs, v, h1, hv⟩, fun w H'' y => ?_⟩
  obtain ⟨rfl, y⟩ := y
  have e := y vs h1
  rw [hv] at e
  cases e
  exact ⟨S', Grow.refl e2, Py.mono e1 rv⟩
theorem it_list {xs : List α} (h : EvX K tl G xs G1) : ItG K (iList K tl) G xs G1 := fun B S0 S σ H F k R q =>
  h B S0 S σ H F k _ fun v S1 H1 e1 k1 r1 => by
    obtain ⟨p, vs, rfl, hp, hr⟩ := r1
    exact ⟨p, rfl, ⟨vs, SqL.of (k1.sub _ _ hp)⟩, q _ S1 H1 e1 k1 (wk_list hp hr)⟩
theorem wk_tup {S : Hp} {p : Addr} {vs : List V} {xs : List α} (hp : SqT K S p vs) (r : RepL K S vs xs) : Wk K (Itt K p) S xs := fun S' H' i e1 e2 => by
  have h1 : SqT K H' p vs := seqT e2 (seqT e1 hp)
  refine ⟨fun x hx => ?_, fun hl => ⟨vs, h1, by rw [r.len]; exact hl⟩⟩
  obtain ⟨v, hv, rv⟩ := r.get hx
  refine ⟨⟨vs, v, h1, hv⟩, fun w H'' y => ?_⟩
  obtain ⟨rfl, y⟩ := y
  have e := y vs h1
  rw [hv] at e
  cases e
  exact ⟨S', Grow.refl e2, Py.mono e1 rv⟩
theorem it_tup {xs : Tp α} (h : EvX K tl G xs G1) : ItG K (iTup K tl) G xs.l G1 := fun B S0 S σ H F k R q =>
  h B S0 S σ H F k _ fun v S1 H1 e1 k1 r1 => by
    obtain ⟨p, vs, rfl, hp, hr⟩ := r1
    exact ⟨p, rfl, ⟨vs, seqT k1.sub hp⟩, q _ S1 H1 e1 k1 (wk_tup hp hr)⟩
theorem wk_rng {S : Hp} (a : Int) (n : Nat) : Wk K (Itr a n) S ((List.range n).map fun (i : Nat) => a + (i : Int)) := fun S' H' i e1 e2 => by
  refine ⟨fun x hx => ?_, fun hl => by rw [List.length_map, List.length_range] at hl; exact hl⟩
  have hi : i < n := by
    have := (List.getElem?_eq_some_iff.mp hx).1
    rw [List.length_map, List.length_range] at this
    exact this
  rw [List.getElem?_map, List.getElem?_range hi] at hx
  cases hx
  refine ⟨hi, fun w H'' y => ?_⟩
  obtain ⟨rfl, rfl⟩ := y
  exact ⟨S', Grow.refl e2, rfl⟩
theorem it_rng1 {n : Int} (h : EvX K ta G n G1) (hn : -4611686018427387904 ≤ n ∧ n < 4611686018427387904) : ItG K (iRng1 (tCons ta tNil)) G (rng 0 n) G1 := fun B S0 S σ H F k R q =>
  h B S0 S σ H F k _ fun v S1 H1 e1 k1 r1 => ⟨n, by rw [show v = .int n from r1], hn.1, hn.2, q _ S1 H1 e1 k1 (by
    have := wk_rng (K := K) (S := S1) 0 n.toNat
    unfold rng
    rw [Int.sub_zero]
    exact this)⟩
theorem wk_enum {S : Hp} {p : Addr} {vs : List V} {xs : List α} (hp : S p = some (.lst vs)) (r : RepL K S vs xs) : Wk K (Ite K p) S (enumI xs) := fun S' H' i e1 e2 => by
  have h1 : SqL K H' p vs := SqL.of (e2 _ _ (e1 _ _ hp))
  have hlen : (enumI xs).length = xs.length := by unfold enumI; rw [List.length_map, List.length_zipIdx]
  refine ⟨fun x hx => ?_, fun hl => ⟨vs, h1, by rw [r.len, ← hlen]; exact hl⟩⟩
  have hi : i < xs.length := by
    rw [← hlen]
    exact (List.getElem?_eq_some_iff.mp hx).1
  have ex : x = ((i : Int), xs[i]) := by
    unfold enumI at hx
    rw [List.getElem?_map, List.getElem?_zipIdx, List.getElem?_eq_getElem hi] at hx
    simpa using hx.symm
  subst ex
  obtain ⟨v, hv, rv⟩ := r.get (List.getElem?_eq_getElem hi)
  refine ⟨⟨vs, v, h1, hv⟩, fun w H'' y => ?_⟩
  obtain ⟨T, u, rfl, hT, rfl, y⟩ := y
  have e := y vs h1
  rw [hv] at e
  cases e
  have g := Grow.new (o := .tup [.int (i : Nat), v]) e2 hT
  exact ⟨_, g, T, _, v, rfl, SqT.of upd_same, rfl, Py.mono (e1.trans g.s) rv⟩
theorem it_enum {xs : List α} (h : EvX K ta G xs G1) : ItG K (iEnum K (tCons ta tNil)) G (enumI xs) G1 := fun B S0 S σ H F k R q =>
  h B S0 S σ H F k _ fun v S1 H1 e1 k1 r1 => by
    obtain ⟨p, vs, rfl, hp, hr⟩ := r1
    exact ⟨p, vs, rfl, SqL.of (k1.sub _ _ hp), q _ S1 H1 e1 k1 (wk_enum hp hr)⟩
end
section
variable {α : Type} [Py α] {G1 : List Sl} {wi : TI} {g : TG} {tb u : TS} {E : Ends} {xs : List α}
theorem q_for (I : List α → List α → List Sl → Prop) (hi : ItG K wi G xs G1) (h0 : I [] xs G1)
    (hs : ∀ pre x post Gi, pre ++ x :: post = xs → I pre (x :: post) Gi → ∀ S1, Reb B S0 S1 → ∃ G2 ts, TgG K g x Gi G2 ts ∧ At K B S1 (tb { E with nx := Mid K B S1 (I (pre ++ [x]) post), ct := Mid K B S1 (I (pre ++ [x]) post), bk := u E }) G2)
    (hd : ∀ Gi, I xs [] Gi → At K B S0 (u E) Gi) : At K B S0 (tSeq (tFor wi g tb) u E) G := fun S σ H F kn =>
  hi B S0 S σ H F kn _ fun J S1 H1 e1 k1 wk => by
    have rb : Reb B S0 S1 := k1.rebOf
    refine ⟨fun i m σ H => ∃ pre post S F Gi, pre ++ post = xs ∧ pre.length = i ∧ post.length = m ∧ Kn K B S1 S σ H F Gi ∧ I pre post Gi, ⟨xs.length, [], xs, S1, F, G1, rfl, rfl, rfl, k1.reb, h0⟩, ?_⟩
    rintro i m σ' H' ⟨pre, post, S2, F2, Gi, ex, rfl, rfl, k2, p⟩
    cases post with
    | nil =>
      refine .inl ⟨(wk S2 H' pre.length k2.s0 k2.sub).2 (by rw [← ex, List.append_nil]; exact Nat.le_refl _), ?_⟩
      rw [List.append_nil] at ex
      subst ex
      exact hd Gi p S2 σ' H' F2 (k2.unreb rb)
    | cons x post =>
      have hx : xs[pre.length]? = some x := by
        rw [← ex, List.getElem?_append_right (Nat.le_refl _), Nat.sub_self]
        rfl
      obtain ⟨go, yl⟩ := (wk S2 H' pre.length k2.s0 k2.sub).1 x hx
      refine .inr ⟨go, Mid K B S1 (I (pre ++ [x]) post), ?_, ?_⟩
      · rintro σ3 H3 ⟨S3, F3, G3, k3, p3⟩
        exact ⟨post.length, by rw [List.length_cons]; omega, pre ++ [x], post, S3, F3, G3, by rw [← ex, List.append_assoc]; rfl, by rw [List.length_append]; rfl, rfl, k3, p3⟩
      · intro v H3 y
        obtain ⟨S3, gr, r⟩ := yl v H3 y
        obtain ⟨G2, ts, tg, bd⟩ := hs pre x post Gi ex p S1 rb
        exact tg.2 B S1 S3 σ' H3 F2 v (k2.grow gr) r _ fun σ4 k4 _ _ => bd S3 σ4 H3 F2 k4
theorem q_fold {τ : Type} (γ : τ → List Sl) (step : τ → α → τ) (s0 : τ) (hi : ItG K wi G xs G1) (h0 : Le (γ s0) G1)
    (hs : ∀ pre x post, pre ++ x :: post = xs → ∀ S1, Reb B S0 S1 → ∃ G2 ts, TgG K g x (γ (pre.foldl step s0)) G2 ts ∧
      At K B S1 (tb { E with nx := Mid K B S1 (· = γ (step (pre.foldl step s0) x)), ct := Mid K B S1 (· = γ (step (pre.foldl step s0) x)), bk := u E }) G2)
    (hd : At K B S0 (u E) (γ (xs.foldl step s0))) : At K B S0 (tSeq (tFor wi g tb) u E) G := by
  have hi' : ItG K wi G xs (γ s0) := fun B S0 S σ H F k R q => hi B S0 S σ H F k R fun J S' H' e k' w => q J S' H' e (k'.le h0) w
  refine q_for (fun pre post Gi => Gi = γ (pre.foldl step s0)) hi' rfl (fun pre x post Gi ex p S1 rb => ?_) fun Gi p => by rw [p]; exact hd
  subst p
  obtain ⟨G2, ts, tg, bd⟩ := hs pre x post ex S1 rb
  refine ⟨G2, ts, tg, ?_⟩
  have e : ∀ Gi, (Gi = γ ((pre ++ [x]).foldl step s0)) = (Gi = γ (step (pre.foldl step s0) x)) := fun Gi => by rw [List.foldl_append]; rfl
  have e2 : (fun Gi => Gi = γ ((pre ++ [x]).foldl step s0)) = (fun Gi => Gi = γ (step (pre.foldl step s0) x)) := funext e
  show At K B S1 (tb { E with nx := Mid K B S1 (fun Gi => Gi = γ ((pre ++ [x]).foldl step s0)), ct := Mid K B S1 (fun Gi => Gi = γ ((pre ++ [x]).foldl step s0)), bk := u E }) G2
  rw [e2]
  exact bd
end
section
variable {tt : TT} {tb u : TS} {E : Ends}
theorem q_while (I : Nat → List Sl → Prop) (m0 : Nat) (h0 : I m0 G) (hs : ∀ m Gi, I m Gi → ∀ S1, Reb B S0 S1 → ∃ b, EvT K tt Gi b Gi ∧
      (b = true → At K B S1 (tb { E with nx := Mid K B S1 (fun G' => ∃ m', m' < m ∧ I m' G'), ct := Mid K B S1 (fun G' => ∃ m', m' < m ∧ I m' G'), bk := u E }) Gi) ∧ (b = false → At K B S1 (u E) Gi)) :
    At K B S0 (tSeq (tWhile tt tb) u E) G := fun S σ H F kn => by
  refine ⟨fun m σ H => ∃ S F Gi, Kn K B S0 S σ H F Gi ∧ I m Gi, ⟨m0, S, F, G, kn, h0⟩, ?_⟩
  rintro m σ' H' ⟨S1, F1, Gi, k1, p⟩
  obtain ⟨b, ht, h1, h2⟩ := hs m Gi p S0 Reb.refl
  refine ht B S0 S1 σ' H' F1 k1 _ fun S2 H2 e2 k2 => ?_
  cases b with
  | true =>
    refine ⟨Mid K B S0 (fun G' => ∃ m', m' < m ∧ I m' G'), ?_, h1 rfl S2 σ' H2 F1 k2⟩
    rintro σ3 H3 ⟨S3, F3, G3, k3, m', hm, p3⟩
    exact ⟨m', hm, S3, F3, G3, k3, p3⟩
  | false => exact h2 rfl S2 σ' H2 F1 k2
end
def Sl.isOw : Sl → Bool
  | @Sl.ow _ _ _ => true
  | _ => false
theorem wipeG_get (G : List Sl) : ∀ (vs : List Nat) (k : Nat), k ∉ vs → (wipeG G vs)[k]? = G[k]?
  | [], _, _ => rfl
  | v :: vs, k, h => by
    unfold wipeG
    rw [List.getElem?_set_ne fun e => h (by rw [e]; exact List.mem_cons_self)]
    exact wipeG_get G vs k fun q => h (List.mem_cons_of_mem _ q)
theorem wipe_get' {σ : St} {vs : List Nat} {k : Nat} (h : k ∉ vs) : (L2.wipe σ vs)[k]? = σ[k]? := by
  rw [wipe_get, if_neg fun q => h q.1]
section
variable {α β τ : Type} [Py α] [Py β] {G1 : List Sl} {wi : TI} {g : TG} {tt : TT} {te : TE} {vs : List Nat} {xs : List α}
theorem Kn.outer {B1 : Hp} {G2 Gn : List Sl} {σ2 : St} (k : Kn K B S0 S σ H F G) (e : Same S S') (k2 : Kn K B1 S0 S' σ2 H' F G2) (hb : Same B B1) (hσ : ∀ j : Nat, j ∉ vs → σ2[j]? = σ[j]?)
    (hG : ∀ j s, Gn[j]? = some s → (j ∉ vs ∧ G2[j]? = some s) ∨ (s.isOw = false ∧ G[j]? = some s)) (hl : Gn.length = G.length) : Kn K B S0 S' σ H' F Gn := by
  refine ⟨k2.s0, k2.sub, hb.trans k2.keep, fun p o q => k2.clean p o (hb p o q), fun i p hp => ?_, k2.dj, hl.trans k.len, fun j s hj => ?_⟩
  · obtain ⟨h1, h2, h3⟩ := k2.off i p hp
    exact ⟨h1, hb.free h2, h3⟩
  · rcases hG j s hj with ⟨hv, h2⟩ | ⟨ho, h1⟩
    · have z := k2.sl j s h2
      rw [hσ j hv] at z
      exact z
    · have z := k.sl j s h1
      cases s with
      | no => exact True.intro
      | im x =>
        obtain ⟨v, h1, h2⟩ := z
        exact ⟨v, h1, Py.mono e h2⟩
      | ow x => cases ho
theorem el_lcX (γ : τ → List Sl) (s0 : τ) (step : τ → α → τ) (f : τ → α → Bool) (e : τ → α → β) (hi : ItG K wi G xs (γ s0)) (hl : xs.length ≤ 1000000)
    (hs : ∀ pre x post, pre ++ x :: post = xs → ∀ s, s = pre.foldl step s0 → ∃ G2 ts, TgG K g x (wipeG (γ s) vs) G2 ts ∧ (∀ t ∈ ts, t ∈ vs) ∧ ∃ G3 G4, EvT K tt G2 (f s x) G3 ∧ (f s x = true → EvX K te G3 (e s x) G4) ∧ (f s x = false → G4 = G3) ∧
      (∀ j sl, (γ (step s x))[j]? = some sl → (j ∉ vs ∧ G4[j]? = some sl) ∨ (sl.isOw = false ∧ (γ s)[j]? = some sl)) ∧ (γ (step s x)).length = (γ s).length) :
    EvL K (tLc wi g tt te vs) G ((xs.foldl (fun (a : List β × τ) x => (if f a.2 x = true then a.1 ++ [e a.2 x] else a.1, step a.2 x)) ([], s0)).1) (γ (xs.foldl step s0)) := fun B S0 S σ H F kn Q q =>
  hi B S0 S σ H F kn _ fun J S1 H1 e1 k1 wk D hD => by
    obtain ⟨a1, a2, a3⟩ := k1.free hD
    have hsnd : ∀ (l : List α) (a : List β) (s : τ), (l.foldl (fun (a : List β × τ) x => (if f a.2 x = true then a.1 ++ [e a.2 x] else a.1, step a.2 x)) (a, s)).2 = l.foldl step s := by
      intro l
      induction l with
      | nil => intro a s; rfl
      | cons x l ih => intro a s; rw [List.foldl_cons, List.foldl_cons]; exact ih _ _
    refine ⟨fun i m H => ∃ pre post S acc, pre ++ post = xs ∧ pre.length = i ∧ post.length = m ∧ Kn K B S0 S σ H F (γ (pre.foldl step s0)) ∧ Same S1 S ∧ S D = none ∧ H D = some (.lst acc) ∧ acc.length ≤ pre.length ∧ RepL K S acc ((pre.foldl (fun (a : List β × τ) x => (if f a.2 x = true then a.1 ++ [e a.2 x] else a.1, step a.2 x)) ([], s0)).1),
      ⟨xs.length, [], xs, S1, [], rfl, rfl, rfl, k1.raw hD, Same.refl _, a1, upd_same, Nat.le_refl _, True.intro⟩, ?_⟩
    rintro i m H' ⟨pre, post, S2, acc, ex, rfl, rfl, k2, s2, d2, hd2, hacc, r2⟩
    cases post with
    | nil =>
      refine .inl ⟨(wk S2 H' pre.length s2 k2.sub).2 (by rw [← ex, List.append_nil]; exact Nat.le_refl _), ?_⟩
      rw [List.append_nil] at ex
      subst ex
      exact q D acc S2 H' (e1.trans s2) k2 d2 a2 a3 hd2 r2
    | cons x post =>
      have hx : xs[pre.length]? = some x := by
        rw [← ex, List.getElem?_append_right (Nat.le_refl _), Nat.sub_self]
        rfl
      obtain ⟨go, yl⟩ := (wk S2 H' pre.length s2 k2.sub).1 x hx
      have hlen : pre.length < 1000000 := by
        have := congrArg List.length ex
        rw [List.length_append, List.length_cons] at this
        omega
      refine .inr ⟨go, fun H => ∃ S acc, Kn K B S0 S σ H F (γ ((pre ++ [x]).foldl step s0)) ∧ Same S1 S ∧ S D = none ∧ H D = some (.lst acc) ∧ acc.length ≤ (pre ++ [x]).length ∧ RepL K S acc (((pre ++ [x]).foldl (fun (a : List β × τ) x => (if f a.2 x = true then a.1 ++ [e a.2 x] else a.1, step a.2 x)) ([], s0)).1), ?_, ?_⟩
      · rintro H3 ⟨S3, acc3, k3, s3, d3, hd3, ha3, r3⟩
        exact ⟨post.length, by rw [List.length_cons]; omega, pre ++ [x], post, S3, acc3, by rw [← ex, List.append_assoc]; rfl, by rw [List.length_append]; rfl, rfl, k3, s3, d3, hd3, ha3, r3⟩
      · intro v H3 y
        obtain ⟨S3, gr, r⟩ := yl v H3 y
        obtain ⟨G2, ts, tg, hts, G3, G4, ht, he, hn, hG, hlG⟩ := hs pre x post ex _ rfl
        have k3 := k2.grow gr
        have hd3 := gr.h D _ hd2
        have d3 : S3 D = none := (gr.cl D _ hd2).trans d2
        have kp := (k3.wipe vs).pin hd3 d3 a3
        have ef : (pre ++ [x]).foldl step s0 = step (pre.foldl step s0) x := by rw [List.foldl_append]; rfl
        have ea : ((pre ++ [x]).foldl (fun (a : List β × τ) x => (if f a.2 x = true then a.1 ++ [e a.2 x] else a.1, step a.2 x)) ([], s0)).1 =
            if f (pre.foldl step s0) x = true then (pre.foldl (fun (a : List β × τ) x => (if f a.2 x = true then a.1 ++ [e a.2 x] else a.1, step a.2 x)) ([], s0)).1 ++ [e (pre.foldl step s0) x] else (pre.foldl (fun (a : List β × τ) x => (if f a.2 x = true then a.1 ++ [e a.2 x] else a.1, step a.2 x)) ([], s0)).1 := by
          rw [List.foldl_append, List.foldl_cons, List.foldl_nil, hsnd]
        rw [ef, ea]
        refine tg.2 (upd B D (.lst acc)) S0 S3 _ H3 F v kp r _ fun σ4 k4 o4 w4 => ⟨?_, ?_⟩
        · rw [w4 vs hts]
          apply List.ext_getElem?
          intro j
          rw [wipe_get, wipe_get, wipe_length]
          by_cases c : j ∈ vs ∧ j < σ.length
          · rw [if_pos c, if_pos c]
          · rw [if_neg c, if_neg c]
        · have hσ : ∀ j : Nat, j ∉ vs → σ4[j]? = σ[j]? := fun j hj => (o4 j fun q => hj (hts j q)).trans (wipe_get' hj)
          refine ht (upd B D (.lst acc)) S0 S3 σ4 H3 F k4 _ fun S5 H5 e5 k5 => ?_
          cases hf : f (pre.foldl step s0) x with
          | false =>
            have e4 := hn hf
            subst e4
            simp only [Bool.false_eq_true, if_false]
            have hd5 : H5 D = some (.lst acc) := k5.keep _ _ upd_same
            have d5 : S5 D = none := (k5.clean D _ upd_same).trans (k3.s0.free d3)
            exact ⟨S5, acc, Kn.outer k3 e5 k5 (same_new a2) hσ hG hlG, (s2.trans gr.s).trans e5, d5, hd5, by rw [List.length_append]; omega, r2.mono (gr.s.trans e5)⟩
          | true =>
            simp only [if_true]
            refine he hf (upd B D (.lst acc)) S0 S5 σ4 H5 F k5 _ fun v6 S6 H6 e6 k6 r6 => ?_
            have hd6 : H6 D = some (.lst acc) := k6.keep _ _ upd_same
            have d6 : S6 D = none := (k6.clean D _ upd_same).trans (k3.s0.free d3)
            refine ⟨acc, hd6, Nat.lt_of_le_of_lt hacc (Nat.lt_trans hlen (by decide)), S6, acc ++ [v6], (Kn.outer k3 (e5.trans e6) k6 (same_new a2) hσ hG hlG).poke d6 a2 a3, (s2.trans gr.s).trans (e5.trans e6), d6, upd_same, ?_, ?_⟩
            · rw [List.length_append, List.length_append]
              simp only [List.length_singleton]
              omega
            · exact (r2.mono (gr.s.trans (e5.trans e6))).snoc r6
theorem foldl_fm (f : α → Bool) (e : α → β) : ∀ (l : List α) (a : List β), (l.foldl (fun (a : List β × Unit) x => (if f x = true then a.1 ++ [e x] else a.1, ())) (a, ())).1 = a ++ (l.filter f).map e
  | [], a => by simp
  | x :: l, a => by
    rw [List.foldl_cons, foldl_fm f e l, List.filter_cons]
    cases f x with
    | true => simp
    | false => simp
theorem el_lcF (f : α → Bool) (e : α → β) (hi : ItG K wi G xs G1) (hl : xs.length ≤ 1000000) (hw : (vs.all fun j => !((G1[j]?.map Sl.isOw).getD false)) = true)
    (hs : ∀ x, x ∈ xs → ∃ G2 ts, TgG K g x (wipeG G1 vs) G2 ts ∧ (∀ t ∈ ts, t ∈ vs) ∧ EvT K tt G2 (f x) G2 ∧ (f x = true → EvX K te G2 (e x) G2)) :
    EvL K (tLc wi g tt te vs) G ((xs.filter f).map e) G1 := by
  have h := el_lcX (K := K) (wi := wi) (g := g) (tt := tt) (te := te) (vs := vs) (G := G) (fun _ : Unit => G1) () (fun _ _ => ()) (fun _ => f) (fun _ => e) hi hl (fun pre x post ex s _ => by
    obtain ⟨G2, ts, tg, hts, ht, he⟩ := hs x (by rw [← ex]; exact List.mem_append_right _ List.mem_cons_self)
    refine ⟨G2, ts, tg, hts, G2, G2, ht, he, fun _ => rfl, fun j sl hj => ?_, rfl⟩
    by_cases hv : j ∈ vs
    · have := List.all_eq_true.mp hw j hv
      rw [hj] at this
      exact .inr ⟨by simpa using this, hj⟩
    · refine .inl ⟨hv, ?_⟩
      rw [tg.1 j fun q => hv (hts j q), wipeG_get _ _ _ hv]
      exact hj)
  have e1 := foldl_fm f e xs []
  rw [List.nil_append] at e1
  rw [e1] at h
  exact h
theorem el_lcM (e : α → β) (hi : ItG K wi G xs G1) (hl : xs.length ≤ 1000000) (hw : (vs.all fun j => !((G1[j]?.map Sl.isOw).getD false)) = true)
    (hs : ∀ x, x ∈ xs → ∃ G2 ts, TgG K g x (wipeG G1 vs) G2 ts ∧ (∀ t ∈ ts, t ∈ vs) ∧ EvX K te G2 (e x) G2) : EvL K (tLc wi g tYes te vs) G (xs.map e) G1 := by
  have h := el_lcF (K := K) (wi := wi) (g := g) (tt := tYes) (te := te) (vs := vs) (G := G) (fun _ => true) e hi hl hw fun x hx => by
    obtain ⟨G2, ts, a, b, c⟩ := hs x hx
    exact ⟨G2, ts, a, b, et_yes, fun _ => c⟩
  have ef : xs.filter (fun _ => true) = xs := List.filter_eq_self.mpr fun _ _ => rfl
  rw [ef] at h
  exact h
end
end
end GL
namespace GL
open PySem PySem.Spec PyProof.Rows L2
class Sls (α : Type) extends PyA α where
  sls : α → List Sl
  ok : ∀ {K : Fg} {S H : Hp} {vs : List V} {x : α}, toPyA.rep K S vs x → (sls x).length = vs.length ∧ ∀ (i : Nat) (s : Sl), (sls x)[i]? = some s → SlOk K S H (vs.map some)[i]? [] s
instance : Sls Unit := ⟨fun _ => [], fun h => ⟨by rw [show _ = [] from h]; rfl, fun i s e => by simp at e⟩⟩
instance {α β : Type} [Py α] [Sls β] : Sls (α × β) := ⟨fun x => .im x.1 :: Sls.sls x.2, fun {K S H vs x} h => by
  obtain ⟨v, ws, rfl, h1, h2⟩ := h
  obtain ⟨l, q⟩ := Sls.ok (H := H) h2
  refine ⟨by rw [List.length_cons, List.length_cons, l], fun i s e => ?_⟩
  cases i with
  | zero =>
    simp only [List.getElem?_cons_zero, Option.some.injEq] at e
    subst e
    exact ⟨v, rfl, h1⟩
  | succ i =>
    have := q i s (by simpa using e)
    simpa using this⟩
structure Cal (P : Program) (w : World) (K : Fg) (mg : Str → Option Value) (base : Heap) (k : Nat) (x : Str) (ps : List Str) (sp : Sp) : Prop where
  ex : ∃ (f : Addr) (fd : FuncData), mg x = some (.ref f) ∧ FnOk P w K mg base CX0 k f fd ps sp ∧ PySem.W.keepIn K (.ref f) = true ∧ Binds K fd ps []
structure Def (K : Fg) (mg : Str → Option Value) (x : Str) (st : Stmt) (ps : List Str) : Prop where
  ex : ∃ (f : Addr) (fd : FuncData), mg x = some (.ref f) ∧ Fun K x x st f fd ∧ Binds K fd ps []
theorem Cal.mono {P : Program} {w : World} {K : Fg} {mg : Str → Option Value} {base : Heap} {j k : Nat} {x : Str} {ps : List Str} {sp : Sp} (c : Cal P w K mg base j x ps sp) (h : j ≤ k) : Cal P w K mg base k x ps sp := by
  obtain ⟨f, fd, a, b, c, d⟩ := c.ex
  exact ⟨f, fd, a, b.mono h, c, d⟩
theorem pe_cal {X : Cx} {j k : Nat} {x : Str} {ps : List Str} {sp : Sp} {e : Expr} {es : List Expr} {t : TA} {p pos : Pos} (c : Cal X.prog X.w X.K X.mg X.base k x ps sp) (hr : Room j X.A) (hk : k ≤ j) (hg : Gl X x) (ha : PA X (e :: es) t)
    (hd : (x == ("__debug__" : Str)) = false := by decide) (hs : starEach (e :: es) X.env = (false, eval e X.env) :: starEach es X.env := by rfl) (hpl : (backTo pos (starEach es X.env)).any (·.1) = false := by rfl) :
    PE X (.Call (.Name x p) (e :: es) [] pos) (tCall sp [] E0 t) := by
  obtain ⟨f, fd, a, b, c, d⟩ := c.ex
  exact pe_call b (hr.mono hk) hg a c d .nil pass0 ha hd hs hpl
section
variable {P : Program} {w : World} {K : Fg} {mg : Str → Option Value} {base : Heap} {α β : Type} [Sls α] [Py β]
theorem start_kn {H S : Hp} {vs : List V} {a : α} {N : List Str} (e : Same S H) (r : PyA.rep K S vs a) : Kn K H S S (L2.start N vs) H (fun _ => []) (Sls.sls a ++ List.replicate (N.length - PyA.n α) .no) := by
  obtain ⟨l, q⟩ := Sls.ok (H := H) r
  have hn := PyA.len r
  refine ⟨Same.refl _, e, Same.refl _, fun _ _ _ => rfl, (fun i p hp => nomatch hp), (fun i j p hp => nomatch hp), ?_, fun i s hi => ?_⟩
  · unfold L2.start
    rw [List.length_append, List.length_append, List.length_map, List.length_replicate, List.length_replicate, l, hn]
  · unfold L2.start
    by_cases c : i < (Sls.sls a).length
    · rw [List.getElem?_append_left c] at hi
      rw [List.getElem?_append_left (by rw [List.length_map, ← l]; exact c)]
      exact q i s hi
    · rw [List.getElem?_append_right (by omega)] at hi
      have : s = .no := by
        have := List.mem_of_getElem? hi
        exact List.eq_of_mem_replicate this
      subst this
      exact True.intro
theorem def_spF {x : Str} {st : Stmt} {N ps : List Str} {k : Nat} {f : α → β} {pre : α → Prop} (D : Def K mg x st ps) (S : FnScope N ps (defScope st)) (hn : PyA.n α = ps.length)
    (h : ∀ (fa : Addr) (cdv : Value) (A : Around) (outer : List Env) (s : Shared) (H : Hp) (E : XK), Room k (A.deeper (envOfC x (defScope st) s.heap.objs.size fa cdv)) →
      ∃ t, PSs (cxOf CX0 P w K mg base N x (defScope st) fa cdv A outer s H E).nox (defBody st) t ∧
        ∀ (a : α), pre a → ∀ (B S0 : Hp) (Q : VK), (∀ G' y, y = f a → RT K B S0 Q y G') → At K B S0 (t { nx := fun _ H' => Q .non H', rt := Q }) (Sls.sls a ++ List.replicate (N.length - PyA.n α) .no)) :
    Cal P w K mg base (k + 1) x ps (spF K f pre) := by
  obtain ⟨fa, fd, m, F, b⟩ := D.ex
  refine ⟨fa, fd, m, F.ok S (fun vs H Q E ⟨S, a, _, r, _⟩ => (PyA.len r).trans hn) fun cdv A outer s H vs Q E hr ⟨S', a, e, r, hp, q⟩ => ?_, F.kp, b⟩
  obtain ⟨t, h1, h2⟩ := h fa cdv A outer s H E hr
  refine ⟨t, h1, h2 a hp H S' Q (fun G' y ey S1 σ1 H1 F1 v k1 r1 => ?_) S' _ H _ (start_kn e r)⟩
  subst ey
  exact q v S1 H1 ⟨k1.s0, k1.sub, k1.keep, k1.clean⟩ r1
end
end GL
namespace GL
open PySem PySem.Spec PyProof.Rows L2
inductive Fl (τ ρ : Type) where
  | nx (s : τ)
  | bk (s : τ)
  | rt (r : ρ)
def forL {α τ ρ : Type} (body : τ → α → Fl τ ρ) (k : τ → ρ) : List α → τ → ρ
  | [], s => k s
  | x :: xs, s => match body s x with
    | .nx s' => forL body k xs s'
    | .bk s' => k s'
    | .rt r => r
def whl {τ ρ : Type} (c : τ → Bool) (body : τ → Fl τ ρ) (k : τ → ρ) : Nat → τ → ρ
  | 0, s => k s
  | n + 1, s => if c s = true then (match body s with
    | .nx s' => whl c body k n s'
    | .bk s' => k s'
    | .rt r => r) else k s
section
variable {α τ ρ : Type} {body : τ → α → Fl τ ρ} {k : τ → ρ} {x : α} {xs : List α} {s s' : τ} {r : ρ} {R : ρ}
theorem forL_nx (h : R = forL body k (x :: xs) s) (e : body s x = .nx s') : R = forL body k xs s' := by
  rw [h, forL, e]
theorem forL_rt (h : R = forL body k (x :: xs) s) (e : body s x = .rt r) : R = r := by
  rw [h, forL, e]
variable {c : τ → Bool} {bodyW : τ → Fl τ ρ} {n : Nat}
theorem whl_nx (h : R = whl c bodyW k (n + 1) s) (hc : c s = true) (e : bodyW s = .nx s') : R = whl c bodyW k n s' := by
  rw [h, whl, if_pos hc, e]
end
section
variable {K : Fg} {B S0 S1 S S' : Hp} {σ : L2.St} {H H' : Hp} {F : Nat → List Addr} {G G' : List Sl}
section
variable {α β γ : Type} [Py α] [Py β] [Py γ] {x : α} {y : β} {G1 G2 : List Sl} {te ta tb : TE} {t u w : TS} {E : Ends} {tt : TT} {b : Bool} {i j l : Nat} {P : L2.St → Hp → Prop}
theorem at_genO {δ : Type} [Own δ] {x : δ} (i : Nat) (h : G[i]? = some (.ow x)) (k : ∀ y, y = x → At K B S0 P (G.set i (.ow y))) : At K B S0 P G := by
  have := k x rfl
  have e : G.set i (.ow x) = G := by
    apply List.ext_getElem?
    intro j
    by_cases q : i = j
    · subst q
      rw [List.getElem?_set_self (List.getElem?_eq_some_iff.mp h).1, h]
    · rw [List.getElem?_set_ne q]
  rw [e] at this
  exact this
theorem qg_set (i : Nat) (h : EvX K te G x G1) (hi : G1[i]?.isSome = true) (k : ∀ y, y = x → At K B S0 (u E) (G1.set i (.im y))) : At K B S0 (tSeq (tAsg te (gName i)) u E) G := q_set h hi (k x rfl)
theorem qg_own {xs : List α} (i : Nat) (h : EvL K te G xs G1) (hi : G1[i]?.isSome = true) (k : ∀ y, y = xs → At K B S0 (u E) (G1.set i (.ow y))) : At K B S0 (tSeq (tAsg te (gName i)) u E) G := q_own h hi (k xs rfl)
theorem qg_pair {xy : α × β} (i j : Nat) (h : EvX K te G xy G1) (hi : G1[i]?.isSome = true) (hj : (G1.set i (.im xy.1))[j]?.isSome = true) (k : ∀ a b, a = xy.1 → b = xy.2 → At K B S0 (u E) ((G1.set i (.im a)).set j (.im b))) :
    At K B S0 (tSeq (tAsg te (gTup K 2 (gCons (gName i) (gCons (gName j) gNil)))) u E) G := q_asg h (tg_pair (tg_name hi) (tg_name hj)) (k _ _ rfl rfl)
theorem qg_app {xs xs' : List α} (i : Nat) (hl : G[i]? = some (.ow xs)) (h : EvX K te G x G1) (hl1 : G1[i]? = some (.ow xs')) (hz : xs'.length < sizeLine) (k : ∀ y, y = xs' ++ [x] → At K B S0 (u E) (G1.set i (.ow y))) :
    At K B S0 (tSeq (tDrop (tBM K "list" rAppend (tVar i) (tCons te tNil))) u E) G := q_app hl h hl1 hz (k _ rfl)
theorem qg_setL {xs : List α} {n : Int} (i : Nat) (h : EvX K te G x G1) (hi : EvX K tb G1 n G2) (hl1 : G1[i]? = some (.ow xs)) (hl : G2[i]? = some (.ow xs)) (hn : 0 ≤ n ∧ n < xs.length) (k : ∀ y, y = xs.set n.toNat x → At K B S0 (u E) (G2.set i (.ow y))) :
    At K B S0 (tSeq (tAsg te (gSub (tVar i) tb rSetL)) u E) G := q_setL h hi hl1 hl hn (k _ rfl)
theorem q_ifF (h : EvT K tt G b G1) (hb : b = false) (k : At K B S0 (u E) G1) : At K B S0 (tSeq (tIfS tt t tNext) u E) G := q_if h (fun e => by rw [hb] at e; cases e) fun _ => k
end
section
variable {α : Type} [Py α] {τ ρ : Type} {G1 : List Sl} {wi : TI} {g : TG} {tb u : TS} {tt : TT} {E : Ends} {xs : List α}
theorem qg_fold (γ : τ → List Sl) (step : τ → α → τ) (s0 : τ) (hi : ItG K wi G xs G1) (h0 : Le (γ s0) G1)
    (hs : ∀ pre x post s, pre ++ x :: post = xs → s = pre.foldl step s0 → ∀ S1, Reb B S0 S1 → ∃ G2 ts, TgG K g x (γ s) G2 ts ∧ At K B S1 (tb { E with nx := Mid K B S1 (· = γ (step s x)), ct := Mid K B S1 (· = γ (step s x)), bk := u E }) G2)
    (hd : ∀ s, s = xs.foldl step s0 → At K B S0 (u E) (γ s)) : At K B S0 (tSeq (tFor wi g tb) u E) G :=
  q_fold γ step s0 hi h0 (fun pre x post ex S1 rb => hs pre x post _ ex rfl S1 rb) (hd _ rfl)
theorem qg_inv (γ : τ → List Sl) (I : List α → τ → Prop) (s0 : τ) (hi : ItG K wi G xs G1) (h0 : Le (γ s0) G1) (hI : I [] s0)
    (hs : ∀ pre x post s, pre ++ x :: post = xs → I pre s → ∀ S1, Reb B S0 S1 → ∃ G2 ts, TgG K g x (γ s) G2 ts ∧ At K B S1 (tb { E with nx := Mid K B S1 (fun G' => ∃ s', G' = γ s' ∧ I (pre ++ [x]) s'), ct := Mid K B S1 (fun G' => ∃ s', G' = γ s' ∧ I (pre ++ [x]) s'), bk := u E }) G2)
    (hd : ∀ s, I xs s → At K B S0 (u E) (γ s)) : At K B S0 (tSeq (tFor wi g tb) u E) G := by
  have hi' : ItG K wi G xs (γ s0) := fun B S0 S σ H F k R q => hi B S0 S σ H F k R fun J S' H' e k' w => q J S' H' e (k'.le h0) w
  refine q_for (fun pre post Gi => ∃ s, Gi = γ s ∧ I pre s) hi' ⟨s0, rfl, hI⟩ (fun pre x post Gi ex ⟨s, e, p⟩ S1 rb => ?_) fun Gi ⟨s, e, p⟩ => by rw [e]; exact hd s p
  subst e
  exact hs pre x post s ex p S1 rb
theorem qg_forL (γ : τ → List Sl) (body : τ → α → Fl τ ρ) (k : τ → ρ) (s0 : τ) (R : ρ) (I : List α → τ → Prop) (hi : ItG K wi G xs G1) (h0 : Le (γ s0) G1) (hR : R = forL body k xs s0) (hI : I [] s0)
    (hs : ∀ pre x post s, pre ++ x :: post = xs → I pre s → R = forL body k (x :: post) s → ∀ S1, Reb B S0 S1 → ∃ G2 ts, TgG K g x (γ s) G2 ts ∧
      At K B S1 (tb { E with nx := Mid K B S1 (fun G' => ∃ s', G' = γ s' ∧ R = forL body k post s' ∧ I (pre ++ [x]) s'), ct := Mid K B S1 (fun G' => ∃ s', G' = γ s' ∧ R = forL body k post s' ∧ I (pre ++ [x]) s'), bk := u E }) G2)
    (hd : ∀ s, R = k s → I xs s → At K B S0 (u E) (γ s)) : At K B S0 (tSeq (tFor wi g tb) u E) G := by
  have hi' : ItG K wi G xs (γ s0) := fun B S0 S σ H F k R q => hi B S0 S σ H F k R fun J S' H' e k' w => q J S' H' e (k'.le h0) w
  refine q_for (fun pre post Gi => ∃ s, Gi = γ s ∧ R = forL body k post s ∧ I pre s) hi' ⟨s0, rfl, hR, hI⟩ (fun pre x post Gi ex ⟨s, e, p, q⟩ S1 rb => ?_) fun Gi ⟨s, e, p, q⟩ => by rw [e]; exact hd s p q
  subst e
  exact hs pre x post s ex q p S1 rb
def WhI (γ : τ → List Sl) (c : τ → Bool) (body : τ → Fl τ ρ) (k : τ → ρ) (R : ρ) (I : τ → Prop) (μ : τ → Nat) (m : Nat) (Gi : List Sl) : Prop := ∃ s, Gi = γ s ∧ R = whl c body k m s ∧ I s ∧ μ s ≤ m
def WhN (γ : τ → List Sl) (c : τ → Bool) (body : τ → Fl τ ρ) (k : τ → ρ) (R : ρ) (I : τ → Prop) (μ : τ → Nat) (n : Nat) (Gi : List Sl) : Prop := ∃ m', m' < n + 1 ∧ WhI γ c body k R I μ m' Gi
end
def spM {ω α β : Type} [Own ω] [PyA α] [Py β] (K : Fg) (f : ω → α → β × ω) (pre : ω → α → Prop) : Sp := fun vs H Q _ => ∃ (S : Hp) (v0 : V) (ws : List V) (ps : List Addr) (z : ω) (a : α), vs = v0 :: ws ∧ Same S H ∧ Own.own K S H v0 ps z ∧
  (∀ p ∈ ps, S p = none ∧ ∃ o, H p = some o) ∧ PyA.rep K S ws a ∧ pre z a ∧ ∀ v S' H', Same S S' → Same S' H' → (∀ p o, p ∉ ps → H p = some o → H' p = some o) → (∀ p o, H p = some o → S' p = S p) → (∀ p ∈ ps, ∃ o, H' p = some o) →
    Own.own K S' H' v0 ps (f z a).2 → Py.rep K S' v (f z a).1 → Q v H'
section
variable {ω α β : Type} [Own ω] [PyA α] [Py β] {G1 : List Sl} {f : ω → α → β × ω} {pre : ω → α → Prop} {z z' : ω} {a : α} {t : TA} {E : XK} {i : Nat}
end
section
variable {P : Program} {w : World} {mg : Str → Option Value} {base : Heap} {ω α β : Type} [Own ω] [Anch ω] [Sls α] [Py β]
end
end
end GL
namespace GL
open PySem PySem.Spec PyProof.Rows L2
section
variable {K : Fg} {B S0 S1 S S' : Hp} {σ : L2.St} {H H' : Hp} {F : Nat → List Addr} {G G' G1 G2 G3 : List Sl} {ta tb tc te : TE} {i j : Nat} {u : TS} {E : Ends}
section
variable {α β γ : Type} [Py α] [Py β] [Py γ]
theorem mk_list {p : Addr} {vs : List V} {xs : List α} {Q : VK} (k : Kn K B S0 S σ H F G) (hp : H p = none) (r : RepL K S vs xs)
    (q : ∀ p vs S' H', Same S S' → Kn K B S0 S' σ H' F G → S' p = none → B p = none → (∀ j, p ∉ F j) → H' p = some (.lst vs) → RepL K S' vs xs → Q (.ref p) H') : Q (.ref p) (upd H p (.lst vs)) := by
  obtain ⟨a, b, c⟩ := k.free hp
  exact q p vs S _ (Same.refl _) (k.raw hp) a b c upd_same r
theorem RepL.rg {K : Fg} {S : Hp} (a b : Int) : RepL K S (rgV a b) (rng a b) := by
  unfold rgV rng
  generalize (List.range (b - a).toNat) = l
  induction l with
  | nil => exact True.intro
  | cons x l ih => exact ⟨rfl, ih⟩
def rListS (K : Fg) : List V → Hp → VK → Prop := fun xs H Q => ∃ p ys, xs = [.ref p] ∧ (SqL K H p ys ∨ SqT K H p ys) ∧ ∀ l, H l = none → Q (.ref l) (upd H l (.lst ys))
def rTupS (K : Fg) : List V → Hp → VK → Prop := fun xs H Q => ∃ p ys, xs = [.ref p] ∧ ((SqL K H p ys ∧ ∀ l, H l = none → Q (.ref l) (upd H l (.tup ys))) ∨ (SqT K H p ys ∧ Q (.ref p) H))
theorem call_listG {X : Cx} : CallR X (.type "list") (rListS X.K) := call_list_of
theorem call_tupG {X : Cx} : CallR X (.type "tuple") (rTupS X.K) := call_tuple_of
theorem el_list {xs : List α} (h : EvC K ta G xs G1) : EvL K (tCB (rListS K) (tCons ta tNil)) G xs G1 := fun B S0 S σ H F k Q q =>
  h B S0 S σ H F k _ fun v S1 H1 e1 k1 r1 => by
    obtain ⟨p, vs, rfl, hp, hr⟩ := r1.at k1
    exact ⟨p, vs, rfl, .inl (SqL.of hp), fun l hl => mk_list k1 hl hr fun p vs S2 H2 e2 k2 a b c d r => q p vs S2 H2 (e1.trans e2) k2 a b c d r⟩
theorem el_listT {xs : Tp α} (h : EvX K ta G xs G1) : EvL K (tCB (rListS K) (tCons ta tNil)) G xs.l G1 := fun B S0 S σ H F k Q q =>
  h B S0 S σ H F k _ fun v S1 H1 e1 k1 r1 => by
    obtain ⟨p, vs, rfl, hp, hr⟩ := r1
    exact ⟨p, vs, rfl, .inr (seqT k1.sub hp), fun l hl => mk_list k1 hl hr fun p vs S2 H2 e2 k2 a b c d r => q p vs S2 H2 (e1.trans e2) k2 a b c d r⟩
theorem ev_tup {xs : List α} (h : EvC K ta G xs G1) : EvX K (tCB (rTupS K) (tCons ta tNil)) G (Tp.mk xs) G1 := fun B S0 S σ H F k Q q =>
  h B S0 S σ H F k _ fun v S1 H1 e1 k1 r1 => by
    obtain ⟨p, vs, rfl, hp, hr⟩ := r1.at k1
    exact ⟨p, vs, rfl, .inl ⟨SqL.of hp, fun l hl => q _ _ _ (e1.trans (same_new (k1.free hl).1)) (k1.new hl) ⟨l, vs, rfl, SqT.of upd_same, hr.mono (same_new (k1.free hl).1)⟩⟩⟩
def cutL {δ : Type} (xs : List δ) (lo hi : Option Int) : List δ := (xs.drop (HT.sIx xs.length 0 lo)).take (HT.sIx xs.length xs.length hi - HT.sIx xs.length 0 lo)
def EvO (K : Fg) (t : TO) (G : List Sl) (o : Option Int) : Prop := ∀ B S0 S σ H F, Kn K B S0 S σ H F G → ∀ Q : Option Int → Hp → Prop, (∀ S' H', Same S S' → Kn K B S0 S' σ H' F G → Q o H') → t σ H Q
theorem eo_none : EvO K tNoPart G none := fun B S0 S σ H F k Q q => q S H (Same.refl _) k
theorem eo_some {n : Int} (h : EvX K ta G n G) : EvO K (tPart ta) G (some n) := fun B S0 S σ H F k Q q => h B S0 S σ H F k _ fun v S1 H1 e1 k1 r1 => ⟨n, r1, q S1 H1 e1 k1⟩
theorem RepL.cut {vs : List V} {xs : List α} (h : RepL K S vs xs) (lo hi : Option Int) : RepL K S (cutV vs lo hi) (cutL xs lo hi) := by
  unfold cutV cutL
  rw [h.len]
  exact (h.drop _).take _
theorem el_slice {xs : List α} {tl th : TO} {lo hi : Option Int} (h : EvC K ta G xs G) (hl : EvO K tl G lo) (hh : EvO K th G hi) : EvL K (tSl (rSlL K) ta tl th) G (cutL xs lo hi) G := fun B S0 S σ H F k Q q =>
  h B S0 S σ H F k _ fun v S1 H1 e1 k1 r1 => hl B S0 S1 σ H1 F k1 _ fun S2 H2 e2 k2 => hh B S0 S2 σ H2 F k2 _ fun S3 H3 e3 k3 => by
    obtain ⟨p, vs, rfl, hp, hr⟩ := (r1.mono (e2.trans e3)).at k3
    exact ⟨p, vs, rfl, SqL.of hp, fun l hl => mk_list k3 hl (hr.cut lo hi) fun p vs S4 H4 e4 k4 a b c d r => q p vs S4 H4 (((e1.trans e2).trans e3).trans e4) k4 a b c d r⟩
theorem inV_ints (x : Int) : ∀ xs : List Int, inV (.int x) (xs.map V.int) = decide (x ∈ xs)
  | [] => by simp [inV]
  | y :: xs => by
    have ih := inV_ints x xs
    unfold inV at ih ⊢
    rw [List.map_cons, List.any_cons, ih]
    by_cases e : y = x
    · subst e
      simp [eqV]
    · have : ¬ x = y := fun z => e z.symm
      simp [eqV, e, this]
theorem flat_ints : ∀ xs : List Int, (xs.map V.int).all flatV = true
  | [] => rfl
  | _ :: xs => by rw [List.map_cons, List.all_cons, flat_ints xs]; rfl
theorem ev_inT {x : Int} {xs : Tp Int} (ha : EvX K ta G x G) (hb : EvX K tb G xs G) : EvX K (tOp (rIn K false) ta tb) G (decide (x ∈ xs.l)) G := fun B S0 S σ H F k Q q =>
  ha B S0 S σ H F k _ fun v S1 H1 e1 k1 r1 => hb B S0 S1 σ H1 F k1 _ fun w S2 H2 e2 k2 r2 => by
    obtain ⟨p, vs, rfl, hp, hr⟩ := r2
    rw [hr.ints] at hp
    rw [show v = .int x from r1]
    exact ⟨p, _, rfl, .inr (seqT k2.sub hp), rfl, flat_ints _, q _ S2 H2 (e1.trans e2) k2 (by rw [inV_ints]; rfl)⟩
theorem ev_all {bs : List Bool} (h : EvC K ta G bs G1) : EvX K (tCB (rAll K) (tCons ta tNil)) G (bs.all id) G1 := fun B S0 S σ H F k Q q =>
  h B S0 S σ H F k _ fun v S1 H1 e1 k1 r1 => by
    obtain ⟨p, vs, rfl, hp, hr⟩ := r1.at k1
    rw [hr.bls] at hp
    exact ⟨p, bs, rfl, SqL.of hp, q _ S1 H1 e1 k1 rfl⟩
def srt (xs : List Int) : List Int := xs.mergeSort fun a b => decide (a ≤ b)
theorem srt_perm (xs : List Int) : (srt xs).Perm xs := List.mergeSort_perm xs _
theorem srt_sorted (xs : List Int) : (srt xs).Pairwise (· ≤ ·) := by
  have h := List.pairwise_mergeSort (le := fun a b : Int => decide (a ≤ b)) (fun a b c h1 h2 => by simp only [decide_eq_true_eq] at *; omega) (fun a b => by simp only [Bool.or_eq_true, decide_eq_true_eq]; omega) xs
  exact h.imp fun q => of_decide_eq_true q
theorem srt_eq {xs ys : List Int} (p : ys.Perm xs) (s : ys.Pairwise (· ≤ ·)) : ys = srt xs :=
  (p.trans (srt_perm xs).symm).eq_of_pairwise (fun a b _ _ h1 h2 => Int.le_antisymm h1 h2) s (srt_sorted xs)
def rSortDI : List V → Hp → VK → Prop := fun xs H Q => ∃ (a : Addr) (kvs : List (Key × V)) (ks : List Int), xs = [.ref a] ∧ Rd H a (.dK kvs) ∧ kvs.map (·.1) = ks.map Sum.inl ∧ ks.length < 64 ∧
    ∀ (ys : List Int) (p : Addr), ys.Perm ks → ys.Pairwise (· ≤ ·) → H p = none → Q (.ref p) (upd H p (.lst (ys.map V.int)))
theorem RepD.keys : ∀ {kvs : List (Key × V)} {xs : List (Int × α)}, RepD K S kvs xs → kvs.map (·.1) = (xs.map (·.1)).map Sum.inl
  | [], [], _ => rfl
  | _ :: _, _ :: _, h => by rw [List.map_cons, List.map_cons, List.map_cons, RepD.keys h.2.2, h.1]
  | [], _ :: _, h => h.elim
  | _ :: _, [], h => h.elim
end
class Dt (α : Type) [Py α] where
  dat : α → PyData
  dp : ∀ {K : Fg} {S H : Hp} {v : V} {x : α}, Same S H → Py.rep K S v x → Dp K H v (dat x)
  lay : ∀ x : α, (dat x).canLay0 = true
  dep : Nat
  dle : ∀ x : α, (dat x).depth ≤ dep
  eq : ∀ x y : α, (PyData.eqv (dat x) (dat y) = true) ↔ x = y
section
variable {α β γ : Type} [Py α] [Py β] [Py γ]
instance : Dt Int := ⟨PyData.int, fun _ h => by rw [show _ = V.int _ from h]; exact .int _, fun _ => rfl, 0, fun _ => Nat.le_refl _, fun x y => by simp [PyData.eqv]⟩
instance : Dt Bool := ⟨PyData.bool, fun _ h => by rw [show _ = V.bl _ from h]; exact .bl _, fun _ => rfl, 0, fun _ => Nat.le_refl _, fun x y => by simp [PyData.eqv]⟩
theorem dpAll [Dt α] (e : Same S H) : ∀ {vs : List V} {xs : List α}, RepL K S vs xs → DpAll K H vs (xs.map Dt.dat)
  | [], [], _ => .nil
  | _ :: _, _ :: _, h => .cons (Dt.dp e h.1) (dpAll e h.2)
  | [], _ :: _, h => h.elim
  | _ :: _, [], h => h.elim
theorem layAll [Dt α] : ∀ xs : List α, PyData.canLayAll0 (xs.map Dt.dat) = true
  | [] => rfl
  | x :: xs => by rw [List.map_cons, PyData.canLayAll0, Dt.lay, layAll xs]; rfl
theorem depAll [Dt α] : ∀ xs : List α, PyData.depthAll (xs.map Dt.dat) ≤ Dt.dep α
  | [] => by rw [List.map_nil, PyData.depthAll]; exact Nat.zero_le _
  | x :: xs => by
    rw [List.map_cons, PyData.depthAll]
    have h1 := Dt.dle x
    have h2 := depAll xs
    omega
theorem eqAll [Dt α] : ∀ xs ys : List α, (PyData.eqvAll (xs.map Dt.dat) (ys.map Dt.dat) = true) ↔ xs = ys
  | [], [] => by simp [PyData.eqvAll]
  | [], _ :: _ => by simp [PyData.eqvAll]
  | _ :: _, [] => by simp [PyData.eqvAll]
  | x :: xs, y :: ys => by
    rw [List.map_cons, List.map_cons, PyData.eqvAll, Bool.and_eq_true, Dt.eq, eqAll xs ys, List.cons.injEq]
instance [Dt α] : Dt (List α) := ⟨fun xs => .list (xs.map Dt.dat), fun e ⟨p, vs, h1, h2, h3⟩ => by rw [h1]; exact .lst (SqL.of (e _ _ h2)) (dpAll e h3), fun xs => by rw [PyData.canLay0]; exact layAll xs, Dt.dep α + 1,
  fun xs => by rw [PyData.depth]; exact Nat.succ_le_succ (depAll xs), fun xs ys => by rw [PyData.eqv]; exact eqAll xs ys⟩
instance [Dt α] : Dt (Tp α) := ⟨fun xs => .tuple (xs.l.map Dt.dat), fun e ⟨p, vs, h1, h2, h3⟩ => by rw [h1]; exact .tup (seqT e h2) (dpAll e h3), fun xs => by rw [PyData.canLay0]; exact layAll xs.l, Dt.dep α + 1,
  fun xs => by rw [PyData.depth]; exact Nat.succ_le_succ (depAll xs.l), fun xs ys => by
    rw [PyData.eqv, eqAll]
    cases xs; cases ys
    simp⟩
instance [Dt α] [Dt β] : Dt (α × β) := ⟨fun x => .tuple [Dt.dat x.1, Dt.dat x.2], fun e ⟨p, a, b, h1, h2, h3, h4⟩ => by rw [h1]; exact .tup (seqT e h2) (.cons (Dt.dp e h3) (.cons (Dt.dp e h4) .nil)),
  fun x => by simp [PyData.canLay0, PyData.canLayAll0, Dt.lay], max (Dt.dep α) (Dt.dep β) + 1, fun x => by
    have h1 := Dt.dle x.1
    have h2 := Dt.dle x.2
    simp only [PyData.depth, PyData.depthAll]
    omega, fun x y => by
    simp only [PyData.eqv, PyData.eqvAll, Bool.and_eq_true, Dt.eq, and_true]
    exact ⟨fun h => Prod.ext h.1 h.2, fun h => by rw [h]; exact ⟨rfl, rfl⟩⟩⟩
instance [Dt α] [Dt β] [Dt γ] : Dt (T3 α β γ) := ⟨fun x => .tuple [Dt.dat x.a, Dt.dat x.b, Dt.dat x.c], fun e ⟨p, a, b, c, h1, h2, h3, h4, h5⟩ => by rw [h1]; exact .tup (seqT e h2) (.cons (Dt.dp e h3) (.cons (Dt.dp e h4) (.cons (Dt.dp e h5) .nil))),
  fun x => by simp [PyData.canLay0, PyData.canLayAll0, Dt.lay], max (Dt.dep α) (max (Dt.dep β) (Dt.dep γ)) + 1, fun x => by
    have h1 := Dt.dle x.a
    have h2 := Dt.dle x.b
    have h3 := Dt.dle x.c
    simp only [PyData.depth, PyData.depthAll]
    omega, fun x y => by
    simp only [PyData.eqv, PyData.eqvAll, Bool.and_eq_true, Dt.eq, and_true]
    cases x; cases y
    simp⟩
theorem shapedD [Dt α] (h : Dt.dep α ≤ 64) (x : α) : SeqAt.shaped (Dt.dat x) = true := by
  unfold SeqAt.shaped
  rw [Dt.lay, decide_eq_true (Nat.le_trans (Dt.dle x) h)]
  rfl
theorem eqvD [Dt α] [DecidableEq α] (x y : α) : PyData.eqv (Dt.dat x) (Dt.dat y) = decide (x = y) := by
  by_cases e : x = y
  · rw [decide_eq_true e]
    exact (Dt.eq x y).mpr e
  · rw [decide_eq_false e]
    exact Bool.eq_false_iff.mpr fun h => e ((Dt.eq x y).mp h)
theorem ev_eqD [Dt α] [DecidableEq α] {x y : α} (ha : EvX K ta G x G1) (hb : EvX K tb G1 y G2) (h : Dt.dep α ≤ 64) : EvX K (tOp (rEqD K) ta tb) G (decide (x = y)) G2 := fun B S0 S σ H F k Q q =>
  ha B S0 S σ H F k _ fun v S1 H1 e1 k1 r1 => hb B S0 S1 σ H1 F k1 _ fun w S2 H2 e2 k2 r2 =>
    ⟨_, _, Dt.dp k2.sub (Py.mono e2 r1), Dt.dp k2.sub r2, shapedD h x, shapedD h y, q _ S2 H2 (e1.trans e2) k2 (by rw [eqvD]; rfl)⟩
theorem dpC [Dt α] {v : V} {xs : List α} (r : Rdl K S σ G v xs) (k : Kn K B S0 S σ H F G) : Dp K H v (Dt.dat xs) := by
  obtain ⟨p, vs, rfl, hp, hr⟩ := r.at k
  exact .lst (SqL.of hp) (dpAll k.sub hr)
theorem ev_neC [Dt α] [DecidableEq α] {x y : List α} (ha : EvC K ta G x G) (hb : EvC K tb G y G) (h : Dt.dep (List α) ≤ 64) : EvX K (tOp (rNeD K) ta tb) G (!decide (x = y)) G := fun B S0 S σ H F k Q q =>
  ha B S0 S σ H F k _ fun v S1 H1 e1 k1 r1 => hb B S0 S1 σ H1 F k1 _ fun w S2 H2 e2 k2 r2 =>
    ⟨_, _, dpC (r1.mono e2) k2, dpC r2 k2, shapedD h x, shapedD h y, q _ S2 H2 (e1.trans e2) k2 (by rw [eqvD]; rfl)⟩
end
theorem ev_chain {f f' : Int → Int → Bool} {a b c : Int} (ha : EvX K ta G a G) (hb : EvX K tb G b G) (hc : EvX K tc G c G) : EvX K (tChain (rI0 fun i j => .bl (f i j)) (rI0 fun i j => .bl (f' i j)) ta tb tc) G (f a b && f' b c) G := fun B S0 S σ H F k Q q =>
  ha B S0 S σ H F k _ fun v S1 H1 e1 k1 r1 => hb B S0 S1 σ H1 F k1 _ fun w S2 H2 e2 k2 r2 => ⟨a, b, r1, r2, f a b, rfl, by
    cases hf : f a b with
    | true =>
      rw [if_pos rfl]
      exact hc B S0 S2 σ H2 F k2 _ fun x S3 H3 e3 k3 r3 => ⟨b, c, r2, r3, q _ S3 H3 ((e1.trans e2).trans e3) k3 (by rw [hf]; rfl)⟩
    | false =>
      rw [if_neg Bool.false_ne_true]
      exact q _ S2 H2 (e1.trans e2) k2 (by rw [hf]; rfl)⟩
theorem ev_isN {α : Type} [Py α] {x : Option α} (hx : ∀ (K : Fg) (S : Hp) (v : V) (y : α), Py.rep K S v y → v ≠ .non) (ha : EvX K ta G x G1) : EvX K (tIsN ta) G x.isNone G1 := fun B S0 S σ H F k Q q =>
  ha B S0 S σ H F k _ fun v S1 H1 e1 k1 r1 => q _ S1 H1 e1 k1 (by
    cases x with
    | none => rw [show v = .non from r1]; rfl
    | some y => exact congrArg V.bl (decide_eq_false (hx K S1 v y r1)))
theorem ev_notN {α : Type} [Py α] {x : Option α} (hx : ∀ (K : Fg) (S : Hp) (v : V) (y : α), Py.rep K S v y → v ≠ .non) (ha : EvX K ta G x G1) : EvX K (tNotN ta) G x.isSome G1 := fun B S0 S σ H F k Q q =>
  ha B S0 S σ H F k _ fun v S1 H1 e1 k1 r1 => q _ S1 H1 e1 k1 (by
    cases x with
    | none => rw [show v = .non from r1]; rfl
    | some y => exact congrArg V.bl (by rw [decide_eq_false (hx K S1 v y r1)]; rfl))
theorem ev_ixS {xs : Scr} {n : Int} (ha : EvX K ta G xs G1) (hb : EvX K tb G1 n G2) (h : 0 ≤ n ∧ n < xs.l.length) : EvX K (tOp (rIxL K) ta tb) G (ix xs.l n) G2 := fun B S0 S σ H F k Q q =>
  ha B S0 S σ H F k _ fun v S1 H1 e1 k1 r1 => hb B S0 S1 σ H1 F k1 _ fun w S2 H2 e2 k2 r2 => by
    obtain ⟨p, rfl, hp⟩ := Py.mono e2 r1
    refine ⟨p, _, n, .int (ix xs.l n), rfl, r2, k2.sub.seq hp, atI_of h.1 ?_, q _ S2 H2 (e1.trans e2) k2 rfl⟩
    rw [List.getElem?_map, ix_at h.1 h.2]
    rfl
end
end GL
namespace GL
open PySem PySem.Spec PyProof.Rows L2
def spLaw (K : Fg) : Sp := fun vs H Q _ => ∃ (a : Addr) (ns : List Int), vs = [.ref a] ∧ SqL K H a (ns.map V.int) ∧ ns.length ≤ 63 ∧ ∀ H', Q (.bl true) H'
def spSpring (K : Fg) : Sp := fun vs H Q _ => ∃ (S : Hp) (a : Scr × Int × Unit), Same S H ∧ PyA.rep K S vs a ∧ (0 ≤ a.2.1 ∧ a.2.1 ≤ 1000) ∧ ∀ z p S' H', Grow S H S' H' → H p = none → S' p = none → H' p = some (.lst [.int z]) → Q (.ref p) H'
section
variable {P : Program} {w : World} {K : Fg} {mg : Str → Option Value} {base : Heap}
end
section
variable {K : Fg} {B S0 : Hp} {G G1 : List Sl} {t : TA} {E : XK} {u : TS} {D : Ends}
end
@[irreducible] def lawCup (z : Spr) (m : Int) : Int × Spr := (z.z % m, ⟨z.a, z.z / m⟩)
theorem cup_bd (z : Spr) {m : Int} (h : 0 < m) : 0 ≤ (lawCup z m).1 ∧ (lawCup z m).1 < m := by
  unfold lawCup
  exact ⟨Int.emod_nonneg _ (by omega), Int.emod_lt_of_pos _ h⟩
theorem le_line {n : Nat} (h : n ≤ 1000000) : n ≤ sizeLine := Nat.le_trans h (by decide)
theorem lt_line {n : Nat} (h : n ≤ 1000000) : n < sizeLine := Nat.lt_of_le_of_lt h (by decide)
end GL
namespace GL
open PySem PySem.Spec PyProof.Rows L2
theorem tuple_mul0 (l : Addr) (items : Array Value) (n : Nat) (dd : Option Addr) (sl : Array (Option Value)) (x : Int) (u : Tok) (c0 : (decide (x < -(2 ^ 63)) || decide (x ≥ 2 ^ 63)) = false) (c1 : (items.isEmpty || x == 1) = false) (c2 : (decide (x ≤ 0) || items.isEmpty) = true) :
    Meets (Builtin.«tuple.__mul__» ⟨[.ref l, .int x u], []⟩) (fun _ R s => s.heap.get? l = some { cls := .type "tuple", dict := dd, data := .seq items n, slots := sl } ∧
      R (.ok (.ret (Value.ref s.heap.objs.size))) { s with heap := s.heap.push { cls := Value.type "tuple", data := Data.seq #[] }, toks := s.toks }) :=
  .of_wp fun prog w A R s h => by
    obtain ⟨hp, g, d, tk, os⟩ := s
    obtain ⟨hl, h⟩ := h
    have f1 := AutoSeq1.idx_int
    wp_walk using wpAny_loadPart' hl
    repeat (first
      | (refine wpAny_ite_false (decide_eq_false (by rw [c0]; exact Bool.false_ne_true)) ?_; wp_walk using wpAny_loadPart' hl)
      | (refine wpAny_ite_false (decide_eq_false (by rw [c1]; exact Bool.false_ne_true)) ?_; wp_walk using wpAny_loadPart' hl)
      | (refine wpAny_ite_true (decide_eq_true c2) ?_; wp_walk using wpAny_loadPart' hl)
      | (refine wpAny_ite_false (decide_eq_false (by decide)) ?_; wp_walk using wpAny_loadPart' hl))
    exact ⟨_, rfl, h⟩
theorem tuple_mul1 (l : Addr) (items : Array Value) (n : Nat) (dd : Option Addr) (sl : Array (Option Value)) (u : Tok) :
    Meets (Builtin.«tuple.__mul__» ⟨[.ref l, .int 1 u], []⟩) (fun _ R s => s.heap.get? l = some { cls := .type "tuple", dict := dd, data := .seq items n, slots := sl } ∧ R (.ok (.ret (Value.ref l))) s) :=
  .of_wp fun prog w A R s h => by
    obtain ⟨hp, g, d, tk, os⟩ := s
    obtain ⟨hl, h⟩ := h
    have f1 := AutoSeq1.idx_int
    wp_walk using wpAny_loadPart' hl
    repeat (first
      | (refine wpAny_ite_false (decide_eq_false (by decide)) ?_; wp_walk using wpAny_loadPart' hl)
      | (refine wpAny_ite_true (decide_eq_true (by rw [Bool.or_eq_true]; exact .inr rfl)) ?_; wp_walk using wpAny_loadPart' hl))
    exact ⟨_, rfl, h⟩
def rRepTA (K : Fg) : R2 := fun x y H Q => ∃ l k xs, x = .ref l ∧ y = .int k ∧ SqT K H l xs ∧ xs ≠ [] ∧ -1000 ≤ k ∧ k ≤ 1000 ∧ xs.length ≤ 1000 ∧ (k ≤ 0 → ∀ p, H p = none → Q (.ref p) (upd H p (.tup []))) ∧ (k = 1 → Q (.ref l) H) ∧
  (2 ≤ k → ∀ p, H p = none → Q (.ref p) (upd H p (.tup (List.replicate k.toNat xs).flatten)))
theorem op_repTA {X : Cx} : OpR X (binaryOp .Mult) (rRepTA X.K) := by
  intro pins s σ H x y v u Q I rx ry h
  obtain ⟨l, k, xs, rfl, rfl, hT, hne, h0, h2, hz, q0, q1, q2⟩ := h
  by_cases hk : 2 ≤ k
  · exact op_repT pins s σ H _ _ v u Q I rx ry ⟨l, k, xs, rfl, rfl, hT, hne, hk, h2, hz, q2 hk⟩
  cases rx
  obtain ⟨t, rfl⟩ := ry
  obtain ⟨its, r, ⟨⟨cls, dd, data, sl⟩, ho, hc, n, hd⟩, hs⟩ := I.tuple hT
  simp only at hc hd
  subst hc hd
  have hle : its.length = xs.length := r.length.symm
  have hn : its ≠ [] := fun e => hne (by
    rw [e] at hle
    exact List.eq_nil_of_length_eq_zero hle.symm)
  have hi : its.toArray.isEmpty = false := by
    cases its with
    | nil => exact absurd rfl hn
    | cons a b => rfl
  have c0 : (decide (k < -(2 ^ 63)) || decide (k ≥ 2 ^ 63)) = false := by
    rw [decide_eq_false (by omega), decide_eq_false (by omega)] <;> rfl
  by_cases hk1 : k = 1
  · subst hk1
    refine wpAny_binaryOp_repeat_ref (T := "tuple") (U := "int") (by decide) ⟨_, ho, rfl⟩ (fun s' => typeIs_int s' 1 t) noFill_tuple_mul F.fills_int_mul F.slot_int_rmul repeat_tuple F.slot_int_index.lookup
      (call_meets F.slot_int_rmul (typeIs_int s 1 t) F.entry_int_rmul (F.args_int_rmul_2 _ _) (int_rmul_tuple 1 t l its.toArray n dd sl)
        ⟨ho, rfl, ⟨_, ho, rfl⟩, call_meets F.slot_tuple_mul ⟨_, ho, rfl⟩ F.entry_tuple_mul (F.args_tuple_mul_2 _ _) (tuple_mul1 l its.toArray n dd sl t) ⟨ho, ?_⟩⟩)
    exact ⟨.ref l, H, I, rfl, q1 rfl⟩
  · have c1 : (its.toArray.isEmpty || k == 1) = false := by
      rw [hi, Bool.false_or]
      exact beq_eq_false_iff_ne.mpr hk1
    have c2 : (decide (k ≤ 0) || its.toArray.isEmpty) = true := by
      rw [hi, Bool.or_false]
      exact decide_eq_true (by omega)
    refine wpAny_binaryOp_repeat_ref (T := "tuple") (U := "int") (by decide) ⟨_, ho, rfl⟩ (fun s' => typeIs_int s' k t) noFill_tuple_mul F.fills_int_mul F.slot_int_rmul repeat_tuple F.slot_int_index.lookup
      (call_meets F.slot_int_rmul (typeIs_int s k t) F.entry_int_rmul (F.args_int_rmul_2 _ _) (int_rmul_tuple k t l its.toArray n dd sl)
        ⟨ho, rfl, ⟨_, ho, rfl⟩, call_meets F.slot_tuple_mul ⟨_, ho, rfl⟩ F.entry_tuple_mul (F.args_tuple_mul_2 _ _) (tuple_mul0 l its.toArray n dd sl k t c0 c1 c2) ⟨ho, ?_⟩⟩)
    refine ⟨.ref s.heap.objs.size, _, I.laid (t' := s.toks) (o := .tup []) (fun b ob q => Heap.get?_push_of_some _ q) (Nat.le_refl _) ?_, rfl, q0 (by omega) _ (I.hok.fresh (Nat.le_refl _))⟩
    exact ⟨Nat.zero_le _, [], .nil, IsTup.new _ _⟩
section
variable {K : Fg} {G G1 G2 : List Sl} {ta tb : TE} {α : Type} [Py α]
theorem ev_repT {xs : Tp α} {k : Int} (ha : EvX K ta G xs G1) (hb : EvX K tb G1 k G2) (hx : xs.l ≠ []) (hl : xs.l.length ≤ 1000) (h0 : -1000 ≤ k) (h1 : k ≤ 1000) : EvX K (tOp (rRepTA K) ta tb) G (Tp.mk (List.replicate k.toNat xs.l).flatten) G2 := fun B S0 S σ H F kn Q q =>
  ha B S0 S σ H F kn _ fun v S1 H1 e1 k1 r1 => hb B S0 S1 σ H1 F k1 _ fun w S2 H2 e2 k2 r2 => by
    obtain ⟨p, vs, rfl, hp, hr⟩ := Py.mono e2 r1
    have hlen := hr.len
    refine ⟨p, k, vs, rfl, r2, seqT k2.sub hp, fun e => hx (List.eq_nil_of_length_eq_zero (by rw [← hlen, e]; rfl)), h0, h1, by omega, fun hk p' hp' => ?_, fun hk => ?_, fun hk p' hp' => ?_⟩
    · have e0 : k.toNat = 0 := by omega
      have s3 := same_new (o := .tup []) (k2.free hp').1
      exact q _ _ _ ((e1.trans e2).trans s3) (k2.new hp') ⟨p', [], rfl, SqT.of upd_same, by rw [e0]; exact True.intro⟩
    · subst hk
      exact q _ S2 H2 (e1.trans e2) k2 ⟨p, vs, rfl, hp, by
        show RepL K S2 vs (List.replicate 1 xs.l).flatten
        simp
        exact hr⟩
    · have s3 := same_new (o := .tup (List.replicate k.toNat vs).flatten) (k2.free hp').1
      exact q _ _ _ ((e1.trans e2).trans s3) (k2.new hp') ⟨p', _, rfl, SqT.of upd_same, (hr.rep k.toNat).mono s3⟩
end
end GL
set_option maxHeartbeats 4000000
namespace L2
open PySem PySem.Spec PyProof.Rows
section
variable {P : Program} {w : World} {A : Around} {E : Value → Shared → Prop} {s : Shared}
end
section
variable {X : Cx}
def tSortSet (K : PySem.W.Frag) (ta : TE) : TE := fun σ H Q => ta σ H fun x H1 => ∃ (l : Addr) (ns : List Int), x = V.ref l ∧ SqL K H1 l (ns.map V.int) ∧ ns.length < 64 ∧
  ∀ (ms : List Int) (p : Addr), ms.Pairwise (· < ·) → (∀ k : Int, k ∈ ms ↔ k ∈ ns) → H1 p = none → Q (.ref p) (upd H1 p (.lst (ms.map V.int)))
end
end L2
namespace GL
open PySem PySem.Spec PyProof.Rows L2
section
variable {K : Fg} {B S0 S1 S S' : Hp} {σ : L2.St} {H H' : Hp} {F : Nat → List Addr} {G G' G1 G2 G3 : List Sl} {ta tb tc te : TE} {i j : Nat} {u : TS} {E : Ends}
def usrt (xs : List Int) : List Int := srt xs.eraseDups
theorem mem_usrt {xs : List Int} {k : Int} : k ∈ usrt xs ↔ k ∈ xs := by
  unfold usrt
  rw [(srt_perm _).mem_iff, List.mem_eraseDups]
theorem nodup_eraseDups (xs : List Int) : xs.eraseDups.Nodup := by
  generalize hn : xs.length = n
  induction n using Nat.strongRecOn generalizing xs with
  | _ n ih =>
    cases xs with
    | nil => simp
    | cons a l =>
      rw [List.eraseDups_cons]
      refine List.nodup_cons.mpr ⟨?_, ih _ ?_ _ rfl⟩
      · rw [List.mem_eraseDups, List.mem_filter]; simp
      · have := List.length_filter_le (fun b => !b == a) l
        simp only [List.length_cons] at hn
        omega
theorem pw_lt_unique : ∀ {xs ys : List Int}, xs.Pairwise (· < ·) → ys.Pairwise (· < ·) → (∀ k, k ∈ xs ↔ k ∈ ys) → xs = ys
  | [], [], _, _, _ => rfl
  | [], y :: ys, _, _, h => absurd ((h y).mpr List.mem_cons_self) (by simp)
  | x :: xs, [], _, _, h => absurd ((h x).mp List.mem_cons_self) (by simp)
  | x :: xs, y :: ys, hx, hy, h => by
    have hx' := List.pairwise_cons.mp hx
    have hy' := List.pairwise_cons.mp hy
    have e : x = y := by
      rcases List.mem_cons.mp ((h x).mp List.mem_cons_self) with e | e
      · exact e
      · rcases List.mem_cons.mp ((h y).mpr List.mem_cons_self) with e2 | e2
        · exact e2.symm
        · have := hx'.1 _ e2; have := hy'.1 _ e; omega
    subst e
    rw [pw_lt_unique hx'.2 hy'.2 fun k => ?_]
    constructor
    · intro hk
      rcases List.mem_cons.mp ((h k).mp (List.mem_cons_of_mem _ hk)) with e | e
      · have := hx'.1 _ hk; omega
      · exact e
    · intro hk
      rcases List.mem_cons.mp ((h k).mpr (List.mem_cons_of_mem _ hk)) with e | e
      · have := hy'.1 _ hk; omega
      · exact e
theorem usrt_pw (xs : List Int) : (usrt xs).Pairwise (· < ·) := by
  have h1 := srt_sorted xs.eraseDups
  have h2 : (srt xs.eraseDups).Nodup := (srt_perm _).symm.nodup (nodup_eraseDups xs)
  exact (h1.and h2).imp fun ⟨a, b⟩ => by omega
theorem usrt_eq {xs ys : List Int} (h : ys.Pairwise (· < ·)) (m : ∀ k, k ∈ ys ↔ k ∈ xs) : ys = usrt xs := pw_lt_unique h (usrt_pw xs) fun k => (m k).trans mem_usrt.symm
end
end GL
namespace GL
open PySem PySem.Spec PyProof.Rows L2
section
variable {K : Fg} {B S0 S1 S S' : Hp} {σ : L2.St} {H H' : Hp} {F : Nat → List Addr} {G G' G1 G2 G3 : List Sl} {ta tb tc te : TE} {i j : Nat} {u : TS} {D : Ends}
class Ty (α : Type) [Py α] (n : outParam String) where
  ty : ∀ {K : Fg} {S H : Hp} {v : V} {x : α}, Same S H → Py.rep K S v x → TyX K H v (.type n)
theorem tyT {p : Addr} {vs : List V} (e : Same S H) (h : SqT K S p vs) : TyX K H (.ref p) (.type "tuple") := by
  rcases seqT e h with (h | ⟨o, h⟩) | ⟨o, its, n, h1, h2, _⟩
  · exact .base (.tup h)
  · exact .fTuple h
  · exact .kTuple h1 h2
instance : Ty Int "int" := ⟨fun _ h => by rw [show _ = V.int _ from h]; exact .base (.int _)⟩
instance : Ty Bool "bool" := ⟨fun _ h => by rw [show _ = V.bl _ from h]; exact .base (.bl _)⟩
instance : Ty Str "str" := ⟨fun _ h => by rw [show _ = V.str _ from h]; exact .base (.str _)⟩
instance {α : Type} [Py α] : Ty (List α) "list" := ⟨fun e ⟨p, vs, h1, h2, _⟩ => by rw [h1]; exact .base (.lst (e _ _ h2))⟩
instance {α : Type} [Py α] : Ty (Tp α) "tuple" := ⟨fun e ⟨p, vs, h1, h2, _⟩ => by rw [h1]; exact tyT e h2⟩
instance {α β : Type} [Py α] [Py β] : Ty (α × β) "tuple" := ⟨fun e ⟨p, a, b, h1, h2, _⟩ => by rw [h1]; exact tyT e h2⟩
instance {α β γ : Type} [Py α] [Py β] [Py γ] : Ty (T3 α β γ) "tuple" := ⟨fun e ⟨p, a, b, c, h1, h2, _⟩ => by rw [h1]; exact tyT e h2⟩
theorem ev_isi {α : Type} [Py α] {n c : String} [Ty α n] {x : α} {b : Bool} (ha : EvX K ta G x G1) (h : kitB n c = some b) : EvX K (tCB (rIsi K) (tCons ta (tCons (tC (.ty c)) tNil))) G b G1 := fun B S0 S σ H F k Q q =>
  ha B S0 S σ H F k _ fun v S1 H1 e1 k1 r1 => ⟨v, .ty c, .type n, .type c, b, rfl, .ty c, Ty.ty k1.sub r1, kit_ty h, q _ S1 H1 e1 k1 rfl⟩
inductive Bk (vs : List Nat) : Nat → List Sl → List Sl → List Sl → Prop
  | n {i : Nat} : Bk vs i [] [] []
  | a {i : Nat} {s o : Sl} {G' G4 G : List Sl} (h : i ∉ vs) : Bk vs (i + 1) G' G4 G → Bk vs i (s :: G') (s :: G4) (o :: G)
  | b {i : Nat} {s o : Sl} {G' G4 G : List Sl} (h : s.isOw = false) : Bk vs (i + 1) G' G4 G → Bk vs i (s :: G') (o :: G4) (s :: G)
theorem Bk.get {vs : List Nat} : ∀ {i : Nat} {Gn G4 G : List Sl}, Bk vs i Gn G4 G → ∀ (j : Nat) (sl : Sl), Gn[j]? = some sl → (i + j ∉ vs ∧ G4[j]? = some sl) ∨ (sl.isOw = false ∧ G[j]? = some sl)
  | _, _, _, _, .n, j, sl, e => by simp at e
  | i, _, _, _, .a h t, 0, sl, e => by
    simp only [List.getElem?_cons_zero, Option.some.injEq] at e
    subst e
    exact .inl ⟨h, rfl⟩
  | i, _, _, _, .b h t, 0, sl, e => by
    simp only [List.getElem?_cons_zero, Option.some.injEq] at e
    subst e
    exact .inr ⟨h, rfl⟩
  | i, _, _, _, .a h t, j + 1, sl, e => by
    have := Bk.get t j sl (by simpa using e)
    rw [show i + 1 + j = i + (j + 1) by omega] at this
    simpa using this
  | i, _, _, _, .b h t, j + 1, sl, e => by
    have := Bk.get t j sl (by simpa using e)
    rw [show i + 1 + j = i + (j + 1) by omega] at this
    simpa using this
theorem Bk.len {vs : List Nat} : ∀ {i : Nat} {Gn G4 G : List Sl}, Bk vs i Gn G4 G → Gn.length = G.length
  | _, _, _, _, .n => rfl
  | _, _, _, _, .a _ t => by rw [List.length_cons, List.length_cons, t.len]
  | _, _, _, _, .b _ t => by rw [List.length_cons, List.length_cons, t.len]
def mapX {τ α β : Type} (e : τ → α → β) (step : τ → α → τ) (xs : List α) (s0 : τ) : List β × τ := xs.foldl (fun a x => (a.1 ++ [e a.2 x], step a.2 x)) ([], s0)
def spR {ω α β : Type} [Own ω] [Anch ω] [PyA α] [Py β] (K : Fg) (ω' : Type := ω) (R : α → β → Prop) (pre : α → Prop) : Sp := fun vs H Q _ => ∃ (S : Hp) (v0 : V) (ws : List V) (ps : List Addr) (z : ω) (a : α), vs = v0 :: ws ∧ Same S H ∧ Own.own K S H v0 ps z ∧
  (∀ p ∈ ps, S p = none ∧ ∃ o, H p = some o) ∧ PyA.rep K S ws a ∧ pre a ∧ ∀ v S' H' (y : β) (z' : ω), R a y → Anch.fp z' = Anch.fp z → Same S S' → Same S' H' → (∀ p o, p ∉ ps → H p = some o → H' p = some o) → (∀ p o, H p = some o → S' p = S p) → (∀ p ∈ ps, ∃ o, H' p = some o) →
    Own.own K S' H' v0 ps z' → Py.rep K S' v y → Q v H'
abbrev spRS {α β : Type} [PyA α] [Py β] (K : Fg) (R : α → β → Prop) (pre : α → Prop) : Sp := spR (ω := Spr) K Spr R pre
section
variable {α β : Type} [PyA α] [Py β] {R : α → β → Prop} {pre : α → Prop} {z z1 : Spr} {a : α} {t : TA} {E : XK} {g : TG}
end
end
section
variable {P : Program} {w : World} {K : Fg} {mg : Str → Option Value} {base : Heap} {α β : Type} [Sls α] [Py β]
end
end GL
namespace GL
open PySem PySem.Spec PyProof.Rows L2
end GL
namespace GL
open PySem PySem.Spec PyProof.Rows L2
section
variable {K : Fg} {B S0 S1 S S' : Hp} {σ : L2.St} {H H' : Hp} {F : Nat → List Addr} {G G' G1 G2 G3 : List Sl} {ta tb tc te : TE} {i j : Nat} {u : TS} {E : Ends}
theorem EvX.get {α : Type} [Py α] [Inhabited α] {x : Option α} (ha : EvX K ta G x G1) (h : x.isSome = true) : EvX K ta G (x.getD default) G1 := fun B S0 S σ H F k Q q =>
  ha B S0 S σ H F k _ fun v S1 H1 e1 k1 r1 => q v S1 H1 e1 k1 (by
    cases x with
    | none => exact absurd h Bool.false_ne_true
    | some y => exact r1)
theorem nn_int : ∀ (K : Fg) (S : Hp) (v : V) (y : Int), Py.rep K S v y → v ≠ .non := fun K S v y r e => by
  have h : v = .int y := r
  rw [h] at e
  cases e
theorem nn_list {α : Type} [Py α] : ∀ (K : Fg) (S : Hp) (v : V) (y : List α), Py.rep K S v y → v ≠ .non := fun K S v y ⟨p, _, r, _⟩ e => by
  rw [r] at e
  cases e
instance : Dt Unit := ⟨fun _ => PyData.none, fun _ h => by rw [show _ = V.non from h]; exact .non, fun _ => rfl, 0, fun _ => Nat.le_refl _, fun x y => by simp [PyData.eqv]⟩
instance : Dt (Option Int) := ⟨fun x => match x with | none => PyData.none | some y => PyData.int y, fun {K S H v x} _ h => by
    cases x with
    | none => rw [show _ = V.non from h]; exact .non
    | some y => rw [show _ = V.int y from h]; exact .int _, fun x => by cases x <;> rfl, 0, fun x => by cases x <;> exact Nat.le_refl _, fun x y => by cases x <;> cases y <;> simp [PyData.eqv]⟩
def maxL : List Int → Int
  | [] => 0
  | x :: xs => xs.foldl max x
end
end GL
set_option maxHeartbeats 4000000
namespace L2
open PySem PySem.Spec PyProof.Rows
def le2 (a b : Int × Int) : Prop := a.1 < b.1 ∨ (a.1 = b.1 ∧ a.2 ≤ b.2)
section
variable {X : Cx}
def rSort2 (K : PySem.W.Frag) : List V → Hp → VK → Prop := fun vs H Q => ∃ (a : Addr) (xs : List V), vs = [V.ref a] ∧ SqL K H a xs ∧ (∀ x ∈ xs, ∃ m n : Int, TupI K H x [m, n]) ∧
  ∀ (ys : List V) (p : Addr), ys.Perm xs → ys.Pairwise (fun x y => ∀ m n m' n', TupI K H x [m, n] → TupI K H y [m', n'] → le2 (m, n) (m', n')) → H p = none → Q (.ref p) (upd H p (.lst ys))
end
end L2
namespace GL
open PySem PySem.Spec PyProof.Rows L2
section
variable {K : Fg} {B S0 S1 S S' : Hp} {σ : L2.St} {H H' : Hp} {F : Nat → List Addr} {G G' G1 G2 G3 : List Sl} {ta tb tc te : TE} {i j : Nat} {u : TS} {E : Ends}
def le2b (a b : Int × Int) : Bool := decide (a.1 < b.1) || (decide (a.1 = b.1) && decide (a.2 ≤ b.2))
@[irreducible] def srt2 (xs : List (Int × Int)) : List (Int × Int) := xs.mergeSort le2b
end
end GL
namespace GL
open PySem PySem.Spec PyProof.Rows L2
section
variable {K : Fg} {B S0 S1 S S' : Hp} {σ : L2.St} {H H' : Hp} {F : Nat → List Addr} {G G' G1 G2 G3 : List Sl} {ta tb tc te : TE} {i j : Nat} {u : TS} {E : Ends}
section
variable {α : Type} [Py α]
end
section
variable {α β γ δ : Type} [Py α] [Py β] [Py γ] [Py δ]
def lG [Inhabited α] : Sum α β → α
  | .inl y => y
  | .inr _ => default
def rG [Inhabited β] : Sum α β → β
  | .inl _ => default
  | .inr y => y
theorem EvX.lG [Inhabited α] {x : Sum α β} (ha : EvX K ta G x G1) (h : x.isLeft = true) : EvX K ta G (GL.lG x) G1 := by
  cases x with
  | inl y => exact ha
  | inr y => exact absurd h Bool.false_ne_true
theorem EvX.rG [Inhabited β] {x : Sum α β} (ha : EvX K ta G x G1) (h : x.isRight = true) : EvX K ta G (GL.rG x) G1 := by
  cases x with
  | inl y => exact absurd h Bool.false_ne_true
  | inr y => exact ha
def sm0 : Sum (T3 α β γ) (α × δ) → α
  | .inl y => y.a
  | .inr y => y.1
def sm1 : Sum (T3 α β γ) (α × δ) → Sum β δ
  | .inl y => .inl y.b
  | .inr y => .inr y.2
def smL : Sum (T3 α β γ) (α × δ) → Sum γ δ
  | .inl y => .inl y.c
  | .inr y => .inr y.2
instance {n : String} [h : Ty α n] [Ty β n] : Ty (Sum α β) n := ⟨fun {K S H v x} e r => by
  cases x with
  | inl y => exact Ty.ty (x := y) e r
  | inr y => exact Ty.ty (x := y) e r⟩
end
end
end GL
namespace GL
open PySem PySem.Spec PyProof.Rows L2
section
variable {K : Fg} {B S0 S1 S S' : Hp} {σ : L2.St} {H H' : Hp} {F : Nat → List Addr} {G G' G1 G2 G3 : List Sl} {ta tb tc te : TE} {i j : Nat} {u : TS} {E : Ends}
variable {α β γ δ : Type} [Py α] [Py β] [Py γ] [Py δ]
class Dq (α : Type) [Py α] where
  dat : α → PyData
  ok : α → Prop
  dp : ∀ {K : Fg} {S H : Hp} {v : V} {x : α}, Same S H → Py.rep K S v x → Dp K H v (dat x)
  lay : ∀ x : α, ok x → (dat x).canLay0 = true
  dep : Nat
  dle : ∀ x : α, (dat x).depth ≤ dep
  eq : ∀ x y : α, (PyData.eqv (dat x) (dat y) = true) ↔ x = y
instance (priority := low) [Dt α] : Dq α := ⟨Dt.dat, fun _ => True, Dt.dp, fun x _ => Dt.lay x, Dt.dep α, Dt.dle, Dt.eq⟩
instance : Dq Str := ⟨PyData.str, fun x => (PyData.str x).canLay0 = true, fun _ h => by rw [show _ = V.str _ from h]; exact .str _, fun x h => h, 0, fun _ => Nat.le_refl _, fun x y => by simp [PyData.eqv]⟩
theorem dqAll [Dq α] (e : Same S H) : ∀ {vs : List V} {xs : List α}, RepL K S vs xs → DpAll K H vs (xs.map Dq.dat)
  | [], [], _ => .nil
  | _ :: _, _ :: _, h => .cons (Dq.dp e h.1) (dqAll e h.2)
  | [], _ :: _, h => h.elim
  | _ :: _, [], h => h.elim
theorem lqAll [Dq α] : ∀ xs : List α, (∀ x ∈ xs, Dq.ok x) → PyData.canLayAll0 (xs.map Dq.dat) = true
  | [], _ => rfl
  | x :: xs, h => by rw [List.map_cons, PyData.canLayAll0, Dq.lay x (h x List.mem_cons_self), lqAll xs fun y hy => h y (List.mem_cons_of_mem _ hy)]; rfl
theorem pqAll [Dq α] : ∀ xs : List α, PyData.depthAll (xs.map Dq.dat) ≤ Dq.dep α
  | [] => by rw [List.map_nil, PyData.depthAll]; exact Nat.zero_le _
  | x :: xs => by
    rw [List.map_cons, PyData.depthAll]
    have h1 := Dq.dle x
    have h2 := pqAll xs
    omega
theorem eqqAll [Dq α] : ∀ xs ys : List α, (PyData.eqvAll (xs.map Dq.dat) (ys.map Dq.dat) = true) ↔ xs = ys
  | [], [] => by simp [PyData.eqvAll]
  | [], _ :: _ => by simp [PyData.eqvAll]
  | _ :: _, [] => by simp [PyData.eqvAll]
  | x :: xs, y :: ys => by
    rw [List.map_cons, List.map_cons, PyData.eqvAll, Bool.and_eq_true, Dq.eq, eqqAll xs ys, List.cons.injEq]
instance (priority := 500) [Dq α] : Dq (List α) := ⟨fun xs => .list (xs.map Dq.dat), fun xs => ∀ x ∈ xs, Dq.ok x, fun e ⟨p, vs, h1, h2, h3⟩ => by rw [h1]; exact .lst (SqL.of (e _ _ h2)) (dqAll e h3), fun xs h => by rw [PyData.canLay0]; exact lqAll xs h, Dq.dep α + 1,
  fun xs => by rw [PyData.depth]; exact Nat.succ_le_succ (pqAll xs), fun xs ys => by rw [PyData.eqv]; exact eqqAll xs ys⟩
instance (priority := 500) [Dq α] [Dq β] : Dq (α × β) := ⟨fun x => .tuple [Dq.dat x.1, Dq.dat x.2], fun x => Dq.ok x.1 ∧ Dq.ok x.2, fun e ⟨p, a, b, h1, h2, h3, h4⟩ => by rw [h1]; exact .tup (seqT e h2) (.cons (Dq.dp e h3) (.cons (Dq.dp e h4) .nil)),
  fun x h => by simp [PyData.canLay0, PyData.canLayAll0, Dq.lay _ h.1, Dq.lay _ h.2], max (Dq.dep α) (Dq.dep β) + 1, fun x => by
    have h1 := Dq.dle x.1
    have h2 := Dq.dle x.2
    simp only [PyData.depth, PyData.depthAll]
    omega, fun x y => by
    simp only [PyData.eqv, PyData.eqvAll, Bool.and_eq_true, Dq.eq, and_true]
    exact ⟨fun h => Prod.ext h.1 h.2, fun h => by rw [h]; exact ⟨rfl, rfl⟩⟩⟩
instance (priority := 500) [Dq α] [Dq β] [Dq γ] : Dq (T3 α β γ) := ⟨fun x => .tuple [Dq.dat x.a, Dq.dat x.b, Dq.dat x.c], fun x => Dq.ok x.a ∧ Dq.ok x.b ∧ Dq.ok x.c, fun e ⟨p, a, b, c, h1, h2, h3, h4, h5⟩ => by rw [h1]; exact .tup (seqT e h2) (.cons (Dq.dp e h3) (.cons (Dq.dp e h4) (.cons (Dq.dp e h5) .nil))),
  fun x h => by simp [PyData.canLay0, PyData.canLayAll0, Dq.lay _ h.1, Dq.lay _ h.2.1, Dq.lay _ h.2.2], max (Dq.dep α) (max (Dq.dep β) (Dq.dep γ)) + 1, fun x => by
    have h1 := Dq.dle x.a
    have h2 := Dq.dle x.b
    have h3 := Dq.dle x.c
    simp only [PyData.depth, PyData.depthAll]
    omega, fun x y => by
    simp only [PyData.eqv, PyData.eqvAll, Bool.and_eq_true, Dq.eq, and_true]
    cases x; cases y
    simp⟩
end
end GL
namespace GL
open PySem PySem.Spec PyProof.Rows L2
section
variable {K : Fg} {B S0 S1 S S' : Hp} {σ : L2.St} {H H' : Hp} {F : Nat → List Addr} {G G' G1 G2 G3 : List Sl} {ta tb tc te : TE} {i j : Nat} {t u : TS} {E : Ends}
theorem ev_isB {a b : Bool} (ha : EvX K ta G a G1) (hb : EvX K tb G1 b G2) : EvX K (tOp rIsB ta tb) G (decide (a = b)) G2 := fun B S0 S σ H F k Q q =>
  ha B S0 S σ H F k _ fun v S1 H1 e1 k1 r1 => hb B S0 S1 σ H1 F k1 _ fun w S2 H2 e2 k2 r2 => ⟨a, b, r1, r2, q _ S2 H2 (e1.trans e2) k2 rfl⟩
theorem ev_nisB {a b : Bool} (ha : EvX K ta G a G1) (hb : EvX K tb G1 b G2) : EvX K (tOp rNotB ta tb) G (!decide (a = b)) G2 := fun B S0 S σ H F k Q q =>
  ha B S0 S σ H F k _ fun v S1 H1 e1 k1 r1 => hb B S0 S1 σ H1 F k1 _ fun w S2 H2 e2 k2 r2 => ⟨a, b, r1, r2, q _ S2 H2 (e1.trans e2) k2 rfl⟩
theorem el_catX {α : Type} [Py α] {xs ys : List α} (ha : EvX K ta G xs G1) (hb : EvX K tb G1 ys G2) (hz : xs.length + ys.length ≤ sizeLine) : EvL K (tOp rCat ta tb) G (xs ++ ys) G2 := fun B S0 S σ H F k Q q =>
  ha B S0 S σ H F k _ fun v S1 H1 e1 k1 r1 => hb B S0 S1 σ H1 F k1 _ fun w S2 H2 e2 k2 r2 => by
    obtain ⟨p, vs, rfl, hp, hr⟩ := Py.mono e2 r1
    obtain ⟨p', vs', rfl, hp', hr'⟩ := r2
    exact ⟨p, p', vs, vs', rfl, rfl, k2.sub _ _ hp, k2.sub _ _ hp', by rw [hr.len, hr'.len]; exact hz, fun l hl => mk_list k2 hl (hr.app hr') fun p vs S3 H3 e3 k3 a b c d r => q p vs S3 H3 ((e1.trans e2).trans e3) k3 a b c d r⟩
section
variable {tt uu : TT} {b c : Bool} {ω : Type} [Own ω] {z z' : ω}
end
theorem q_cutI {τ : Type} (γ : τ → List Sl) (I : τ → Prop) (h : At K B S0 (t { E with nx := Mid K B S0 (fun G' => ∃ s, G' = γ s ∧ I s) }) G) (k : ∀ s, I s → At K B S0 (u E) (γ s)) : At K B S0 (Evl.tCut t u E) G :=
  q_cut _ h fun G' ⟨s, e, p⟩ => by rw [e]; exact k s p
end
end GL
namespace GL
open PySem PySem.Spec PyProof.Rows L2
class PyF (α : Type) [Py α] where
  repF : Fg → Hp → Hp → V → α → Prop
  un : ∀ {K : Fg} {D S : Hp} {v : V} {x : α}, repF K D S v x → Py.rep K S v x
  mono : ∀ {K : Fg} {D S S' : Hp} {v : V} {x : α}, Same S S' → repF K D S v x → repF K D S' v x
  anti : ∀ {K : Fg} {D D' S : Hp} {v : V} {x : α}, Same D' D → repF K D S v x → repF K D' S v x
class PyT (α : Type) [Py α] [PyF α] : Prop where
  of : ∀ {K : Fg} {D S : Hp} {v : V} {x : α}, Py.rep K S v x → PyF.repF K D S v x
structure Fx (α : Type) where
  D : Hp
  x : α
@[reducible] def trivF (α : Type) [Py α] : PyF α := ⟨fun K _ S v x => Py.rep K S v x, fun h => h, fun e h => Py.mono e h, fun _ h => h⟩
instance : PyF Int := trivF Int
instance : PyF Bool := trivF Bool
instance : PyF Str := trivF Str
instance : PyF Unit := trivF Unit
instance {α : Type} [Py α] : PyF (Tp α) := trivF (Tp α)
instance : PyF (Option Int) := trivF (Option Int)
instance : PyT Int := ⟨fun h => h⟩
instance : PyT Bool := ⟨fun h => h⟩
instance : PyT Str := ⟨fun h => h⟩
instance : PyT Unit := ⟨fun h => h⟩
instance {α : Type} [Py α] : PyT (Tp α) := ⟨fun h => h⟩
instance : PyT (Option Int) := ⟨fun h => h⟩
section
variable {α β γ : Type} [Py α] [Py β] [Py γ]
instance : PyF (List α) := ⟨fun K D S v x => Py.rep K S v x ∧ ∃ p, v = .ref p ∧ D p = none, fun h => h.1, fun e h => ⟨Py.mono e h.1, h.2⟩, fun e ⟨h, p, h1, h2⟩ => ⟨h, p, h1, e.free h2⟩⟩
instance [PyF α] [PyF β] : PyF (α × β) := ⟨fun K D S v x => ∃ p a b, v = .ref p ∧ SqT K S p [a, b] ∧ PyF.repF K D S a x.1 ∧ PyF.repF K D S b x.2,
  fun ⟨p, a, b, h1, h2, h3, h4⟩ => ⟨p, a, b, h1, h2, PyF.un h3, PyF.un h4⟩, fun e ⟨p, a, b, h1, h2, h3, h4⟩ => ⟨p, a, b, h1, seqT e h2, PyF.mono e h3, PyF.mono e h4⟩, fun e ⟨p, a, b, h1, h2, h3, h4⟩ => ⟨p, a, b, h1, h2, PyF.anti e h3, PyF.anti e h4⟩⟩
instance [PyF α] [PyF β] [PyF γ] : PyF (T3 α β γ) := ⟨fun K D S v x => ∃ p a b c, v = .ref p ∧ SqT K S p [a, b, c] ∧ PyF.repF K D S a x.a ∧ PyF.repF K D S b x.b ∧ PyF.repF K D S c x.c,
  fun ⟨p, a, b, c, h1, h2, h3, h4, h5⟩ => ⟨p, a, b, c, h1, h2, PyF.un h3, PyF.un h4, PyF.un h5⟩, fun e ⟨p, a, b, c, h1, h2, h3, h4, h5⟩ => ⟨p, a, b, c, h1, seqT e h2, PyF.mono e h3, PyF.mono e h4, PyF.mono e h5⟩,
  fun e ⟨p, a, b, c, h1, h2, h3, h4, h5⟩ => ⟨p, a, b, c, h1, h2, PyF.anti e h3, PyF.anti e h4, PyF.anti e h5⟩⟩
instance [PyF α] [PyF β] : PyF (Sum α β) := ⟨fun K D S v x => match x with | .inl y => PyF.repF K D S v y | .inr y => PyF.repF K D S v y,
  fun {K D S v x} h => by cases x with | inl y => exact PyF.un (α := α) h | inr y => exact PyF.un (α := β) h, fun {K D S S' v x} e h => by cases x with | inl y => exact PyF.mono (α := α) e h | inr y => exact PyF.mono (α := β) e h,
  fun {K D D' S v x} e h => by cases x with | inl y => exact PyF.anti (α := α) e h | inr y => exact PyF.anti (α := β) e h⟩
instance [PyF α] : Py (Fx α) := ⟨fun K S v y => PyF.repF K y.D S v y.x, fun e h => PyF.mono e h⟩
end
section
variable {K : Fg} {B S0 S1 S S' D : Hp} {σ : L2.St} {H H' : Hp} {F : Nat → List Addr} {G G' G1 G2 G3 : List Sl} {ta tb tc te : TE} {i j : Nat} {t u : TS} {E : Ends}
section
variable {α β γ : Type} [Py α] [Py β] [Py γ] [PyF α] [PyF β] [PyF γ] {x : α} {y : β} {z : γ}
theorem at_relF {δ : Type} [Py δ] {x : List δ} {i : Nat} {P : L2.St → Hp → Prop} (h : G[i]? = some (.ow x)) (q : At K B S0 P (G.set i (.im (Fx.mk B x)))) : At K B S0 P G := fun S σ H F k => by
  obtain ⟨S', e, k'⟩ := k.relL h
  obtain ⟨v, hv, p, vs, rfl, hp, h1, h2⟩ := k.ow h
  obtain ⟨hs, hb, _⟩ := k.off i p (by rw [hp]; exact List.mem_singleton.mpr rfl)
  refine q S' σ H (upF F i []) ?_
  have hl : i < G.length := (List.getElem?_eq_some_iff.mp h).1
  obtain ⟨w, hw, rw_⟩ := k'.im (x := x) (i := i) (List.getElem?_set_self hl)
  rw [hv] at hw
  cases hw
  have k3 := k'.set (i := i) (v := .ref p) (x := Fx.mk B x) ⟨rw_, p, rfl, hb⟩ (by rw [List.getElem?_set_self hl]; rfl)
  have e1 : σ.set i (some (.ref p)) = σ := by
    apply List.ext_getElem?
    intro j
    by_cases e : i = j
    · subst e
      rw [List.getElem?_set_self (by rw [← k.len]; exact hl)]
      exact hv.symm
    · rw [List.getElem?_set_ne e]
  rw [e1, List.set_set] at k3
  exact k3
theorem q_retLF {δ : Type} [Py δ] {xs : List δ} (h : EvL K te G xs G1) (k : RT K B S0 E.rt (Fx.mk B xs) G1) : At K B S0 (tSeq (tRet te) u E) G := fun S σ H F kn =>
  h B S0 S σ H F kn _ fun p vs S' H' e kn' hs hb hf hp r =>
    k (upd S' p (.lst vs)) σ H' F (.ref p) (kn'.settle hp hs hb hf) ⟨⟨p, vs, rfl, upd_same, r.mono (same_new hs)⟩, p, rfl, hb⟩
theorem q_retPL {δ : Type} [Py δ] {xs : List δ} {ω : Type} [Py ω] [PyF ω] (f : List δ → ω) (hf : ∀ {K : Fg} {D S : Hp} {v : V}, PyF.repF K D S v xs → PyF.repF K D S v (f xs)) (ha : EvX K ta G x G1) (h : EvL K te G1 xs G2) (k : RT K B S0 E.rt (Fx.mk B ((x, f xs) : α × ω)) G2)
    (hx : ∀ {K : Fg} {D S : Hp} {v : V}, Py.rep K S v x → PyF.repF K D S v x) : At K B S0 (tSeq (tRet (tTup (tCons ta (tCons te tNil)))) u E) G := fun S σ H F kn =>
  ha B S0 S σ H F kn _ fun v S1 H1 e1 k1 r1 => h B S0 S1 σ H1 F k1 _ fun p vs S' H' e kn' hs hb hf' hp r => ⟨by show 2 ≤ sizeLine; decide, fun l hl => by
    have k2 := kn'.settle hp hs hb hf'
    have e3 := same_new (o := .tup [v, .ref p]) (k2.free hl).1
    have e4 : Same S' (upd S' p (.lst vs)) := same_new hs
    exact k _ σ _ F (.ref l) (k2.new hl) ⟨l, v, .ref p, rfl, SqT.of upd_same, hx (Py.mono ((e.trans e4).trans e3) r1), PyF.mono e3 (hf ⟨⟨p, vs, rfl, upd_same, r.mono e4⟩, p, rfl, hb⟩)⟩⟩
end
def spN {α β : Type} [PyA α] [Py β] [PyF β] (K : Fg) (f : α → β) (pre : α → Prop) : Sp := fun vs H Q _ => ∃ (S : Hp) (a : α), Same S H ∧ PyA.rep K S vs a ∧ pre a ∧ ∀ v S' H', Grow S H S' H' → PyF.repF K H S' v (f a) → Q v H'
section
variable {α β : Type} [PyA α] [Py β] [PyF β] {f : α → β} {pre : α → Prop} {a : α} {t : TA} {E : XK} {g : TG} {D : Ends}
end
section
variable {P : Program} {w : World} {mg : Str → Option Value} {base : Heap} {α β : Type} [Sls α] [Py β] [PyF β]
theorem def_spN {x : Str} {st : Stmt} {N ps : List Str} {k : Nat} {f : α → β} {pre : α → Prop} (D : Def K mg x st ps) (S : FnScope N ps (defScope st)) (hn : PyA.n α = ps.length)
    (h : ∀ (fa : Addr) (cdv : Value) (A : Around) (outer : List Env) (s : Shared) (H : Hp) (E : XK), Room k (A.deeper (envOfC x (defScope st) s.heap.objs.size fa cdv)) →
      ∃ t, PSs (cxOf CX0 P w K mg base N x (defScope st) fa cdv A outer s H E).nox (defBody st) t ∧
        ∀ (a : α), pre a → ∀ (B S0 : Hp) (Q : VK), (∀ G' y, y = f a → RT K B S0 Q (Fx.mk B y) G') → At K B S0 (t { nx := fun _ H' => Q .non H', rt := Q }) (Sls.sls a ++ List.replicate (N.length - PyA.n α) .no)) :
    Cal P w K mg base (k + 1) x ps (spN K f pre) := by
  obtain ⟨fa, fd, m, F, b⟩ := D.ex
  refine ⟨fa, fd, m, F.ok S (fun vs H Q E ⟨S, a, _, r, _⟩ => (PyA.len r).trans hn) fun cdv A outer s H vs Q E hr ⟨S', a, e, r, hp, q⟩ => ?_, F.kp, b⟩
  obtain ⟨t, h1, h2⟩ := h fa cdv A outer s H E hr
  refine ⟨t, h1, h2 a hp H S' Q (fun G' y ey S1 σ1 H1 F1 v k1 r1 => ?_) S' _ H _ (start_kn e r)⟩
  subst ey
  exact q v S1 H1 ⟨k1.s0, k1.sub, k1.keep, k1.clean⟩ r1
end
structure At1 (α : Type) where
  S : Hp
  x : α
instance {α : Type} [Py α] : Py (At1 α) := ⟨fun K S v y => Py.rep K y.S v y.x ∧ Same y.S S, fun e h => ⟨h.1, h.2.trans e⟩⟩
theorem EvX.th {α : Type} [Py α] {w : At1 α} (h : EvX K te G w G1) : EvX K te G w.x G1 := fun B S0 S σ H F k Q q => h B S0 S σ H F k Q fun v S' H' e k' r => q v S' H' e k' (Py.mono r.2 r.1)
def frz (S : Hp) : Sl → Sl
  | .no => .no
  | @Sl.im _ i x => @Sl.im _ (@instPyAt1 _ i) (At1.mk S x)
  | @Sl.ow _ i x => @Sl.ow _ i x
theorem Kn.frz (k : Kn K B S0 S σ H F G) : Kn K B S S σ H F (G.map (GL.frz S)) := by
  have k1 := k.reb
  refine ⟨k1.s0, k1.sub, k1.keep, k1.clean, k1.off, k1.dj, by rw [List.length_map]; exact k1.len, fun i s e => ?_⟩
  rw [List.getElem?_map] at e
  cases q : G[i]? with
  | none => rw [q] at e; cases e
  | some s0 =>
    rw [q] at e
    cases e
    have z := k1.sl i s0 q
    cases s0 with
    | no => exact True.intro
    | im x =>
      obtain ⟨v, h1, h2⟩ := z
      exact ⟨v, h1, h2, Same.refl _⟩
    | ow x => exact z
class OwnI (ω : Type) [Own ω] : Prop where
  go : ∀ {K : Fg} {S S' H : Hp} {v : V} {ps : List Addr} {x : ω}, Own.own K S H v ps x → Own.own K S' H v ps x
instance : OwnI Spr := ⟨fun h => h⟩
instance : OwnI (List Int) := ⟨fun {K S S' H v ps x} ⟨p, vs, h1, h2, h3, h4⟩ => ⟨p, vs, h1, h2, h3, by rw [h4.ints]; exact RepL.of_ints x⟩⟩
inductive Thw (S : Hp) : List Sl → List Sl → Prop
  | n : Thw S [] []
  | k {α : Type} [Py α] {x : α} {G G' : List Sl} : Thw S G G' → Thw S (.im (At1.mk S x) :: G) (.im (At1.mk S x) :: G')
  | o {α : Type} [Own α] [OwnI α] {x : α} {G G' : List Sl} : Thw S G G' → Thw S (.ow x :: G) (.ow x :: G')
  | d {s : Sl} {G G' : List Sl} : Thw S G G' → Thw S (.no :: G) (s :: G')
theorem Thw.len {G G' : List Sl} (h : Thw S G G') : G.length = G'.length := by
  induction h with
  | n => rfl
  | k _ ih => rw [List.length_cons, List.length_cons, ih]
  | o _ ih => rw [List.length_cons, List.length_cons, ih]
  | d _ ih => rw [List.length_cons, List.length_cons, ih]
theorem Thw.ok {S2 : Hp} {G G' : List Sl} (t : Thw S G G') : ∀ (f : Nat → Option (Option V)) (F : Nat → List Addr) (H' : Hp), (∀ i p, p ∈ F i → H' p = H p) → (∀ i s, G'[i]? = some s → SlOk K S2 H (f i) (F i) s) → ∀ i s, G[i]? = some s → SlOk K S H' (f i) (F i) s := by
  induction t with
  | n => intro f F H' hH h i s e; simp at e
  | k t ih =>
    intro f F H' hH h i s e
    cases i with
    | zero =>
      simp only [List.getElem?_cons_zero, Option.some.injEq] at e
      subst e
      obtain ⟨v, h1, h2, h3⟩ := h 0 _ rfl
      exact ⟨v, h1, h2, Same.refl _⟩
    | succ i => exact ih (fun i => f (i + 1)) (fun i => F (i + 1)) H' (fun i p hp => hH (i + 1) p hp) (fun i s e => h (i + 1) s (by simpa using e)) i s (by simpa using e)
  | o t ih =>
    intro f F H' hH h i s e
    cases i with
    | zero =>
      simp only [List.getElem?_cons_zero, Option.some.injEq] at e
      subst e
      obtain ⟨v, h1, h2⟩ := h 0 _ rfl
      exact ⟨v, h1, Own.mono (Same.refl _) (fun p hp => hH 0 p hp) (OwnI.go h2)⟩
    | succ i => exact ih (fun i => f (i + 1)) (fun i => F (i + 1)) H' (fun i p hp => hH (i + 1) p hp) (fun i s e => h (i + 1) s (by simpa using e)) i s (by simpa using e)
  | d t ih =>
    intro f F H' hH h i s e
    cases i with
    | zero =>
      simp only [List.getElem?_cons_zero, Option.some.injEq] at e
      subst e
      exact True.intro
    | succ i => exact ih (fun i => f (i + 1)) (fun i => F (i + 1)) H' (fun i p hp => hH (i + 1) p hp) (fun i s e => h (i + 1) s (by simpa using e)) i s (by simpa using e)
section
variable {α : Type} [Py α] {xs : List α} {D : Ends}
end
section
variable {α τ : Type} [Py α] {wi : TI} {g : TG} {tb : TS} {xs : List α}
end
end
end GL
set_option maxHeartbeats 4000000
namespace L2
open PySem PySem.Spec PyProof.Rows
def Two (h : Heap) (v : Value) (m n : Int) : Prop := ∃ (t : Addr) (o : Obj) (c : Nat) (u1 u2 : Tok), v = .ref t ∧ h.get? t = some o ∧ o.cls = .type "tuple" ∧ o.data = .seq #[Value.int m u1, Value.int n u2] c
section
variable {prog : Program} {w : World} {A : Around} {E : Value → Shared → Prop} {s : Shared}
end
section
variable {P : Program} {w : World} {A : Around} {E : Value → Shared → Prop} {s : Shared}
theorem Two.keep {h h' : Heap} {v : Value} {m n : Int} (k : ∀ b o, h.get? b = some o → h'.get? b = some o) (x : Two h v m n) : Two h' v m n := by
  obtain ⟨t, o, c, u1, u2, e, h1, h2⟩ := x
  exact ⟨t, o, c, u1, u2, e, k t o h1, h2⟩
end
section
variable {X : Cx}
def tSortSet2 (K : PySem.W.Frag) (ta : TE) : TE := fun σ H Q => ta σ H fun x H1 => ∃ (l : Addr) (xs : List V), x = V.ref l ∧ SqL K H1 l xs ∧ xs.length < 64 ∧ (∀ x ∈ xs, ∃ m n : Int, TupI K H1 x [m, n]) ∧
  ∀ (ys : List V) (p : Addr), (∀ y ∈ ys, y ∈ xs) → (∀ x ∈ xs, ∀ m n, TupI K H1 x [m, n] → ∃ y ∈ ys, ∀ m' n', TupI K H1 y [m', n'] → (m', n') = (m, n)) → ys.Pairwise (fun x y => ∀ m n m' n', TupI K H1 x [m, n] → TupI K H1 y [m', n'] → le2 (m, n) (m', n') ∧ (m, n) ≠ (m', n')) → ys.length < 64 → H1 p = none → Q (.ref p) (upd H1 p (.lst ys))
end
end L2
namespace GL
open PySem PySem.Spec PyProof.Rows L2
section
variable {K : Fg} {B S0 S1 S S' : Hp} {σ : L2.St} {H H' : Hp} {F : Nat → List Addr} {G G' G1 G2 G3 : List Sl} {ta tb tc te : TE} {i j : Nat} {u : TS} {E : Ends}
def lt2 (a b : Int × Int) : Prop := a.1 < b.1 ∨ (a.1 = b.1 ∧ a.2 < b.2)
@[irreducible] def usrt2 (xs : List (Int × Int)) : List (Int × Int) := srt2 xs.eraseDups
end
end GL
namespace GL
open PySem PySem.Spec PyProof.Rows L2
section
variable {K : Fg} {B S0 S1 S S' D : Hp} {σ : L2.St} {H H' : Hp} {F : Nat → List Addr} {G G' G1 G2 G3 : List Sl} {ta tb tc te : TE} {i j : Nat} {t u : TS} {E : Ends}
section
variable {α β γ δ : Type} [Py α] [Py β] [Py γ] [Py δ] [PyF α] [PyF β] [PyF γ] [PyF δ] {g1 g2 g3 : TG} {t1 t2 t3 : List Nat}
end
section
variable {α β ω : Type} [Py α] [Py β] [Py ω] {D : Ends}
end
def EvOS (K : Fg) (t : TO) (G : List Sl) (o : Option Int) (G' : List Sl) : Prop := ∀ B S0 S σ H F, Kn K B S0 S σ H F G → ∀ Q : Option Int → Hp → Prop, (∀ S' H', Same S S' → Kn K B S0 S' σ H' F G' → Q o H') → t σ H Q
end
end GL
namespace GL
open PySem PySem.Spec PyProof.Rows L2
structure Pen where
  a : Addr
  q : Addr
  l : List Int
  p : Nat
  w : Int
instance : Own Pen := ⟨fun K S H v ps x => v = .ref x.a ∧ ps = [x.a, x.q] ∧ H x.a = some (.lst [.ref x.q, .int x.p, .int x.w]) ∧ H x.q = some (.lst (x.l.map V.int)), fun {K S S' H H' v ps x} e a ⟨h1, h2, h3, h4⟩ =>
  ⟨h1, h2, by rw [a x.a (by rw [h2]; simp)]; exact h3, by rw [a x.q (by rw [h2]; simp)]; exact h4⟩⟩
instance : Anch Pen := ⟨fun x => (.ref x.a, [x.a, x.q]), fun ⟨h1, h2, _⟩ => by rw [h1, h2]⟩
instance : OwnI Pen := ⟨fun h => h⟩
section
variable {K : Fg} {B S0 S1 S S' D : Hp} {σ : L2.St} {H H' : Hp} {F : Nat → List Addr} {G G' G1 G2 G3 : List Sl} {ta tb tc te : TE} {i j : Nat} {t u : TS} {E : Ends}
variable {z : Pen}
theorem el_sliceS {xs : Scr} {tl th : TO} {lo hi : Option Int} (h : EvX K ta G xs G) (hl : EvO K tl G lo) (hh : EvO K th G hi) : EvL K (tSl (rSlL K) ta tl th) G (cutL xs.l lo hi) G := fun B S0 S σ H F k Q q =>
  h B S0 S σ H F k _ fun v S1 H1 e1 k1 r1 => hl B S0 S1 σ H1 F k1 _ fun S2 H2 e2 k2 => hh B S0 S2 σ H2 F k2 _ fun S3 H3 e3 k3 => by
    obtain ⟨p, rfl, hp⟩ := Py.mono (e2.trans e3) r1
    exact ⟨p, _, rfl, k3.sub.seq hp, fun l hl => mk_list k3 hl ((RepL.of_ints xs.l).cut lo hi) fun p vs S4 H4 e4 k4 a b c d r => q p vs S4 H4 (((e1.trans e2).trans e3).trans e4) k4 a b c d r⟩
end
def spPen (K : Fg) : Sp := fun vs H Q _ => ∃ (S : Hp) (a : Scr × Unit), Same S H ∧ PyA.rep K S vs a ∧ a.1.l.length ≤ 63 ∧ ∀ (l : List Int) (p q : Addr) (S' H' : Hp), Grow S H S' H' → l.length ≤ 63 → H p = none → S' p = none → H q = none → S' q = none → H' p = some (.lst [.ref q, .int 0, .int 0]) → H' q = some (.lst (l.map V.int)) → Q (.ref p) H'
section
variable {P : Program} {w : World} {K : Fg} {mg : Str → Option Value} {base : Heap} {B S0 : Hp} {G G1 : List Sl} {t : TA} {E : XK} {u : TS} {D : Ends} {te : TE}
end
def cellM (l : List Int) (p : Nat) : Int := if decide ((p : Int) < (l.length : Int)) = true then ix l (p : Int) else if decide (0 < (l.length : Int)) = true then ix l ((p : Int) * 5 % (l.length : Int)) % 1000003 + 89 * (p : Int) else 0
def oneM (c : Int) (p : Nat) : Int := (c % 1000000007 + 61 * (p : Int) + 1) * 16807 % 2147483647
def twoM (c : Int) (p : Nat) : Int := (oneM c p * oneM c p + 48271 * (p : Int) + 3) % 998244353
def drawM (c : Int) (p : Nat) : Int := if decide ((10 : Int) ^ (18 : Int).toNat ≤ c) = true then c / (10 : Int) ^ (18 : Int).toNat else (twoM c p * 1000000007 + (twoM c p * twoM c p + oneM c p) % 1000000007) / 32 + 1
def fillM (z : Pen) : Pen := if decide (z.w = 0) = true then ⟨z.a, z.q, z.l, z.p + 1, drawM (cellM z.l z.p) z.p⟩ else z
@[irreducible] def penTake (z : Pen) (m : Int) : Int × Pen := ((fillM z).w % m, ⟨(fillM z).a, (fillM z).q, (fillM z).l, (fillM z).p, (fillM z).w / m⟩)
end GL
namespace GL
open PySem PySem.Spec PyProof.Rows L2
abbrev spRP {α β : Type} [PyA α] [Py β] (K : Fg) (R : α → β → Prop) (pre : α → Prop) : Sp := spR (ω := Pen) K Pen R pre
section
variable {K : Fg} {B S0 : Hp} {G G1 : List Sl} {u : TS} {D : Ends} {α β : Type} [PyA α] [Py β] {R : α → β → Prop} {pre : α → Prop} {z z1 : Pen} {a : α} {t : TA} {E : XK} {g : TG}
end
section
variable {P : Program} {w : World} {K : Fg} {mg : Str → Option Value} {base : Heap} {α β : Type} [Sls α] [Py β]
end
end GL
namespace GL
end GL
namespace GL
open PySem PySem.Spec PyProof.Rows L2
def excW (cls : Value) (d : Option Addr) (a : Addr) (h : Heap) : Prop := ∃ ob fs, h.get? a = some ob ∧ Zc cls d ob ∧ ob.data = .fields fs
abbrev excH (cls : Value) (d : Option Addr) (a : Addr) : HO := .ext (excW cls d a)
section
variable {X : Cx} {pins : List (Addr × Obj)} {σ : L2.St} {H : Hp}
end
def noSlot (i : Nat) (D : Ends) : Ends := { nx := fun σ H => D.nx (σ.set i none) H, rt := D.rt, bk := fun σ H => D.bk (σ.set i none) H, ct := fun σ H => D.ct (σ.set i none) H }
def wKeep (K : Fg) (c : Value) (i : Nat) (ts : TS) (D : Ends) : WX := fun cls d σ H =>
  PySem.W.exmOne K cls c = some true ∧ ∀ a, H a = none → ts (noSlot i D) (σ.set i (some (.ref a))) (upd H a (excH cls d a))
def wKeep0 (K : Fg) (c : Value) (ts : TS) (D : Ends) : WX := fun cls d σ H => PySem.W.exmOne K cls c = some true ∧ ∀ a, H a = none → ts D σ (upd H a (excH cls d a))
section
variable {X : Cx} {x n : Str} {c : Value} {i : Nat} {body suite : List Stmt} {st0 : Stmt} {p1 p2 p3 : Pos} {tb : WX → TS} {ts : TS} {pins : List (Addr × Obj)} {D : Ends} {s' : Shared}
structure Landed (X : Cx) (pins : List (Addr × Obj)) (B : Heap) (σ : L2.St) (H : Hp) (cls : Value) (d : Option Addr) (a : Addr) (s : Shared) : Prop where
  fly : HandSPX.FlyingZ B (X.env :: X.outer) a (Zc cls d) s.heap
  inv : Inv X pins σ (upd H a (excH cls d a)) s
end
end GL
set_option maxHeartbeats 4000000
namespace L2
open PySem PySem.Spec PyProof.Rows GL
def rGe2 (K : PySem.W.Frag) : R2 := fun x y H Q => ∃ m n m' n' : Int, TupI K H x [m, n] ∧ TupI K H y [m', n'] ∧ Q (.bl (le2b (m', n') (m, n))) H
end L2
namespace GL
open PySem PySem.Spec PyProof.Rows L2
section
variable {K : Fg} {G G1 G2 : List Sl} {ta tb : TE}
def lastI {α : Type} [Inhabited α] (xs : List α) : α := ix xs ((xs.length : Int) - 1)
theorem ev_last {α : Type} [Py α] [Inhabited α] {xs : List α} (ha : EvX K ta G xs G1) (hb : EvX K tb G1 (-1) G2) (h : 0 < xs.length) : EvX K (tOp (rIxL K) ta tb) G (lastI xs) G2 := fun B S0 S σ H F k Q q =>
  ha B S0 S σ H F k _ fun v S1 H1 e1 k1 r1 => hb B S0 S1 σ H1 F k1 _ fun u S2 H2 e2 k2 r2 => by
    obtain ⟨p, vs, rfl, hp, hr⟩ := Py.mono e2 r1
    obtain ⟨w, h1, h2⟩ := hr.get (ix_at (xs := xs) (i := (xs.length : Int) - 1) (by omega) (by omega))
    have hl := hr.len
    have e : atI vs (-1) = some w := by
      obtain ⟨init, last, rfl⟩ : ∃ init last, vs = init ++ [last] := by
        rcases List.eq_nil_or_concat vs with q | ⟨i, l, q⟩
        · rw [q] at hl; simp at hl; omega
        · exact ⟨i, l, by rw [q]; simp⟩
      rw [List.length_append, List.length_singleton] at hl
      rw [show ((xs.length : Int) - 1).toNat = init.length by omega, List.getElem?_append_right (Nat.le_refl _), Nat.sub_self] at h1
      have e1 : last = w := Option.some.inj h1
      rw [← e1]
      exact atI_last init last
    exact ⟨p, vs, -1, w, rfl, r2, SqL.of (k2.sub _ _ hp), e, q w S2 H2 (e1.trans e2) k2 h2⟩
end
end GL
set_option maxHeartbeats 4000000
namespace GL
open PySem PySem.Spec PyProof.Rows L2
section
variable {K : Fg} {B S0 : Hp} {G G1 G2 : List Sl} {ta tb tc te : TE} {i j : Nat} {u : TS} {E : Ends}
theorem qg_whI {τ : Type} {tt : TT} {tb : TS} (γ : τ → List Sl) (c : τ → Bool) (s0 : τ) (I : τ → Prop) (μ : τ → Nat) (h0 : Le (γ s0) G) (hI : I s0) (hc : ∀ s, I s → EvT K tt (γ s) (c s) (γ s))
    (hs : ∀ s, I s → c s = true → ∀ S1, Reb B S0 S1 → At K B S1 (tb { E with nx := Mid K B S1 (fun G' => ∃ s', G' = γ s' ∧ I s' ∧ μ s' < μ s), ct := Mid K B S1 (fun G' => ∃ s', G' = γ s' ∧ I s' ∧ μ s' < μ s), bk := u E }) (γ s))
    (hd : ∀ s, I s → c s = false → ∀ S1, Reb B S0 S1 → At K B S1 (u E) (γ s)) : At K B S0 (tSeq (tWhile tt tb) u E) G := by
  refine at_le h0 (q_while (fun m Gi => ∃ s, Gi = γ s ∧ I s ∧ μ s = m) (μ s0) ⟨s0, rfl, hI, rfl⟩ fun m Gi ⟨s, e, p, q⟩ S1 rb => ?_)
  subst e
  refine ⟨c s, hc s p, fun hb => ?_, fun hb => hd s p hb S1 rb⟩
  have h := hs s p hb S1 rb
  have e : (fun G' => ∃ m', m' < m ∧ ∃ s', G' = γ s' ∧ I s' ∧ μ s' = m') = (fun G' => ∃ s', G' = γ s' ∧ I s' ∧ μ s' < μ s) := by
    funext G'
    apply propext
    constructor
    · rintro ⟨m', h1, s', h2, h3, h4⟩
      exact ⟨s', h2, h3, by omega⟩
    · rintro ⟨s', h2, h3, h4⟩
      exact ⟨μ s', by omega, s', h2, h3, rfl⟩
  rw [e]
  exact h
end
end GL
set_option maxHeartbeats 4000000
namespace GL
open PySem PySem.Spec PyProof.Rows L2
section
variable {K : Fg} {G : List Sl} {i j : Nat}
def pickX {τ α β : Type} (f : τ → α → Bool) (e : α → β) (step : τ → α → τ) (xs : List α) (s0 : τ) : List β × τ := xs.foldl (fun (a : List β × τ) x => (if f a.2 x = true then a.1 ++ [e x] else a.1, step a.2 x)) ([], s0)
end
section
variable {K : Fg} {B S0 : Hp} {G G1 G2 G3 : List Sl} {ta tb tc : TE} {u : TS} {E : Ends}
end
end GL
namespace GL
open PySem PySem.Spec PyProof.Rows L2
inductive Dat
  | non
  | int (i : Int)
  | bl (b : Bool)
  | str (s : Str)
  | tup (l : List Dat)
  | lst (l : List Dat)
mutual
inductive DRep (K : Fg) (S : Hp) : V → Dat → Prop
  | non : DRep K S .non .non
  | int (i : Int) : DRep K S (.int i) (.int i)
  | bl (b : Bool) : DRep K S (.bl b) (.bl b)
  | str (s : Str) : DRep K S (.str s) (.str s)
  | tup {p : Addr} {vs : List V} {l : List Dat} : SqT K S p vs → DRepL K S vs l → DRep K S (.ref p) (.tup l)
  | lst {p : Addr} {vs : List V} {l : List Dat} : S p = some (.lst vs) → DRepL K S vs l → DRep K S (.ref p) (.lst l)
inductive DRepL (K : Fg) (S : Hp) : List V → List Dat → Prop
  | nil : DRepL K S [] []
  | cons {v : V} {d : Dat} {vs : List V} {l : List Dat} : DRep K S v d → DRepL K S vs l → DRepL K S (v :: vs) (d :: l)
end
mutual
theorem DRep.mono {K : Fg} {S S' : Hp} (e : Same S S') : ∀ {v : V} {d : Dat}, DRep K S v d → DRep K S' v d
  | _, _, .non => .non
  | _, _, .int i => .int i
  | _, _, .bl i => .bl i
  | _, _, .str i => .str i
  | _, _, .tup h r => .tup (seqT e h) (DRepL.mono e r)
  | _, _, .lst h r => .lst (e _ _ h) (DRepL.mono e r)
theorem DRepL.mono {K : Fg} {S S' : Hp} (e : Same S S') : ∀ {vs : List V} {l : List Dat}, DRepL K S vs l → DRepL K S' vs l
  | _, _, .nil => .nil
  | _, _, .cons h r => .cons (DRep.mono e h) (DRepL.mono e r)
end
instance : Py Dat := ⟨fun K S v d => DRep K S v d, fun e h => h.mono e⟩
theorem DRepL.rep {K : Fg} {S : Hp} : ∀ {vs : List V} {l : List Dat}, DRepL K S vs l → RepL K S vs l
  | _, _, .nil => True.intro
  | _, _, .cons h r => ⟨h, DRepL.rep r⟩
inductive DLe : Nat → Dat → Prop
  | non {k : Nat} : DLe k .non
  | int {k : Nat} {i : Int} : DLe k (.int i)
  | bl {k : Nat} {i : Bool} : DLe k (.bl i)
  | str {k : Nat} {i : Str} : DLe k (.str i)
  | tup {k : Nat} {l : List Dat} : l.length ≤ 1000000 → (∀ x ∈ l, DLe k x) → DLe (k + 1) (.tup l)
  | lst {k : Nat} {l : List Dat} : l.length ≤ 1000000 → (∀ x ∈ l, DLe k x) → DLe (k + 1) (.lst l)
class ToD (α : Type) [Py α] where
  dat : α → Dat
  of : ∀ {K : Fg} {S : Hp} {v : V} {x : α}, Py.rep K S v x → DRep K S v (dat x)
instance : ToD Int := ⟨.int, fun h => by rw [show _ = V.int _ from h]; exact .int _⟩
instance : ToD Bool := ⟨.bl, fun h => by rw [show _ = V.bl _ from h]; exact .bl _⟩
instance : ToD Str := ⟨.str, fun h => by rw [show _ = V.str _ from h]; exact .str _⟩
instance : ToD Unit := ⟨fun _ => .non, fun h => by rw [show _ = V.non from h]; exact .non⟩
instance : ToD Dat := ⟨fun d => d, fun h => h⟩
section
variable {α β γ : Type} [Py α] [Py β] [Py γ] [ToD α] [ToD β] [ToD γ]
theorem RepL.toD {K : Fg} {S : Hp} : ∀ {vs : List V} {l : List α}, RepL K S vs l → DRepL K S vs (l.map ToD.dat)
  | [], [], _ => .nil
  | _ :: _, _ :: _, h => .cons (ToD.of h.1) (RepL.toD h.2)
  | [], _ :: _, h => h.elim
  | _ :: _, [], h => h.elim
instance : ToD (List α) := ⟨fun l => .lst (l.map ToD.dat), fun ⟨p, vs, h1, h2, h3⟩ => by rw [h1]; exact .lst h2 h3.toD⟩
instance : ToD (Tp α) := ⟨fun l => .tup (l.l.map ToD.dat), fun ⟨p, vs, h1, h2, h3⟩ => by rw [h1]; exact .tup h2 h3.toD⟩
instance : ToD (α × β) := ⟨fun x => .tup [ToD.dat x.1, ToD.dat x.2], fun ⟨p, a, b, h1, h2, h3, h4⟩ => by rw [h1]; exact .tup h2 (.cons (ToD.of h3) (.cons (ToD.of h4) .nil))⟩
instance : ToD (T3 α β γ) := ⟨fun x => .tup [ToD.dat x.a, ToD.dat x.b, ToD.dat x.c], fun ⟨p, a, b, c, h1, h2, h3, h4, h5⟩ => by rw [h1]; exact .tup h2 (.cons (ToD.of h3) (.cons (ToD.of h4) (.cons (ToD.of h5) .nil)))⟩
instance : ToD (Option α) := ⟨fun x => match x with | none => .non | some y => ToD.dat y, fun {K S v x} h => by
  cases x with
  | none => rw [show _ = V.non from h]; exact .non
  | some y => exact ToD.of (x := y) h⟩
end
structure H2 (α β : Type) where
  a : α
  b : β
  deriving DecidableEq
section
variable {α β γ : Type} [Py α] [Py β] [Py γ]
instance : Py (H2 α β) := ⟨fun K S v x => ∃ p a b, v = .ref p ∧ S p = some (.lst [a, b]) ∧ Py.rep K S a x.a ∧ Py.rep K S b x.b, fun e ⟨p, a, b, h1, h2, h3, h4⟩ => ⟨p, a, b, h1, e _ _ h2, Py.mono e h3, Py.mono e h4⟩⟩
instance [Dt α] [Dt β] : Dt (H2 α β) := ⟨fun x => .list [Dt.dat x.a, Dt.dat x.b], fun e ⟨p, a, b, h1, h2, h3, h4⟩ => by rw [h1]; exact .lst (SqL.of (e _ _ h2)) (.cons (Dt.dp e h3) (.cons (Dt.dp e h4) .nil)),
  fun x => by simp [PyData.canLay0, PyData.canLayAll0, Dt.lay], max (Dt.dep α) (Dt.dep β) + 1, fun x => by
    have h1 := Dt.dle x.a
    have h2 := Dt.dle x.b
    simp only [PyData.depth, PyData.depthAll]
    omega, fun x y => by
    simp only [PyData.eqv, PyData.eqvAll, Bool.and_eq_true, Dt.eq, and_true]
    cases x; cases y
    simp⟩
end
section
variable {K : Fg} {B S0 S1 S S' D : Hp} {σ : L2.St} {H H' : Hp} {F : Nat → List Addr} {G G' G1 G2 G3 : List Sl} {ta tb tc te : TE} {i j : Nat} {t u : TS} {E : Ends}
theorem ev_popAt {α : Type} [Py α] [Inhabited α] {xs : List α} {n : Int} (hl0 : G[i]? = some (.ow xs)) (hn : EvX K te G n G1) (hl : G1[i]? = some (.ow xs)) (h : 0 ≤ n ∧ n < xs.length) (hx : xs.length ≤ 1000000) :
    EvX K (tBM K "list" rPopAt (tVar i) (tCons te tNil)) G (ix xs n) (G1.set i (.ow (xs.eraseIdx n.toNat))) := fun B S0 S σ H F k Q q => by
  obtain ⟨p, vs, h1, h2, h3, h4⟩ := own_list k hl0
  refine ⟨.ref p, h1, .inl ⟨rfl, _, SqL.of h3⟩, hn B S0 S σ H F k _ fun w S1 H1 e1 k1 r1 => ?_⟩
  obtain ⟨p', vs', h1', h2', h3', h4'⟩ := own_list k1 hl
  rw [h1] at h1'
  cases h1'
  obtain ⟨y, g1, g2⟩ := h4'.get (ix_at h.1 h.2)
  refine ⟨p, vs', n, n.toNat, y, rfl, by rw [show w = .int n from r1], h3', by omega, by omega, ?_, g1, q y S1 _ e1 (own_listUpd k1 h1 h2' (h4'.erase n.toNat)) g2⟩
  unfold seqIndex?
  rw [h4'.len]
  have a1 : ¬ n < 0 := by omega
  simp only [a1, if_false]
  rw [if_pos (by simp; omega)]
def Dat.tyn : Dat → String
  | .non => "NoneType"
  | .int _ => "int"
  | .bl _ => "bool"
  | .str _ => "str"
  | .tup _ => "tuple"
  | .lst _ => "list"
theorem DRep.ty {v : V} {d : Dat} (e : Same S H) (h : DRep K S v d) : TyX K H v (.type d.tyn) := by
  cases h with
  | non => exact .base .non
  | int i => exact .base (.int i)
  | bl i => exact .base (.bl i)
  | str i => exact .base (.str i)
  | tup a _ => exact tyT e a
  | lst a _ => exact .base (.lst (e _ _ a))
theorem EvX.dat {α : Type} [Py α] [ToD α] {x : α} (h : EvX K te G x G1) : EvX K te G (ToD.dat x) G1 := fun B S0 S σ H F k Q q => h B S0 S σ H F k Q fun v S' H' e k' r => q v S' H' e k' (ToD.of r)
theorem ev_isiD {c : String} {d : Dat} {b : Bool} (ha : EvX K ta G d G1) (h : kitB d.tyn c = some b) : EvX K (tCB (rIsi K) (tCons ta (tCons (tC (.ty c)) tNil))) G b G1 := fun B S0 S σ H F k Q q =>
  ha B S0 S σ H F k _ fun v S1 H1 e1 k1 r1 => ⟨v, .ty c, .type d.tyn, .type c, b, rfl, .ty c, DRep.ty k1.sub r1, kit_ty h, q _ S1 H1 e1 k1 rfl⟩
def Dat.isN : Dat → Bool
  | .non => true
  | _ => false
theorem EvX.unI {n : Int} (h : EvX K te G (Dat.int n) G1) : EvX K te G n G1 := fun B S0 S σ H F k Q q => h B S0 S σ H F k Q fun v S' H' e k' r => q v S' H' e k' (by cases r; rfl)
theorem EvX.unT {n : List Dat} (h : EvX K te G (Dat.tup n) G1) : EvX K te G (Tp.mk n) G1 := fun B S0 S σ H F k Q q => h B S0 S σ H F k Q fun v S' H' e k' r => q v S' H' e k' (by
  cases r with
  | tup a b => exact ⟨_, _, rfl, a, b.rep⟩)
end
abbrev spSame (K : Fg) (k : Nat) : Sp := spF K (fun (_ : Dat × Dat × Unit) => true) (fun a => a.1 = a.2.1 ∧ DLe k a.1)
end GL
namespace GL
open PySem PySem.Spec PyProof.Rows L2
def del (S : Hp) (p : Addr) : Hp := fun q => if q = p then none else S q
theorem del_self {S : Hp} {p : Addr} : del S p p = none := if_pos rfl
theorem del_ne {S : Hp} {p q : Addr} (h : q ≠ p) : del S p q = S q := if_neg h
class NoD (α : Type) [Py α] : Prop where
  go : ∀ {K : Fg} {S : Hp} {p : Addr} {kvs : List (Key × V)} {v : V} {x : α}, S p = some (.dK kvs) → Py.rep K S v x → Py.rep K (del S p) v x
theorem noT {K : Fg} {S : Hp} {p a : Addr} {kvs : List (Key × V)} {vs : List V} (h : S p = some (.dK kvs)) (r : SqT K S a vs) : SqT K (del S p) a vs := by
  rcases r with (r | ⟨o, r⟩) | r
  · exact .inl (.inl (by rw [del_ne (fun e => by rw [e, h] at r; cases r)]; exact r))
  · exact .inl (.inr ⟨o, by rw [del_ne (fun e => by rw [e, h] at r; cases r)]; exact r⟩)
  · exact .inr r
section
variable {α β γ : Type} [Py α] [Py β] [Py γ]
theorem noL [NoD α] {K : Fg} {S : Hp} {p : Addr} {kvs : List (Key × V)} (h : S p = some (.dK kvs)) : ∀ {vs : List V} {xs : List α}, RepL K S vs xs → RepL K (del S p) vs xs
  | [], [], _ => True.intro
  | _ :: _, _ :: _, r => ⟨NoD.go h r.1, noL h r.2⟩
  | [], _ :: _, r => r.elim
  | _ :: _, [], r => r.elim
instance : NoD Int := ⟨fun _ h => h⟩
instance : NoD Bool := ⟨fun _ h => h⟩
instance : NoD Str := ⟨fun _ h => h⟩
instance : NoD Unit := ⟨fun _ h => h⟩
instance [NoD α] : NoD (List α) := ⟨fun h ⟨a, vs, h1, h2, h3⟩ => ⟨a, vs, h1, by rw [del_ne (fun e => by rw [e, h] at h2; cases h2)]; exact h2, noL h h3⟩⟩
instance [NoD α] : NoD (Tp α) := ⟨fun h ⟨a, vs, h1, h2, h3⟩ => ⟨a, vs, h1, noT h h2, noL h h3⟩⟩
instance [NoD α] [NoD β] : NoD (α × β) := ⟨fun h ⟨a, x, y, h1, h2, h3, h4⟩ => ⟨a, x, y, h1, noT h h2, NoD.go h h3, NoD.go h h4⟩⟩
instance [NoD α] [NoD β] [NoD γ] : NoD (T3 α β γ) := ⟨fun h ⟨a, x, y, z, h1, h2, h3, h4, h5⟩ => ⟨a, x, y, z, h1, noT h h2, NoD.go h h3, NoD.go h h4, NoD.go h h5⟩⟩
instance [NoD α] : NoD (Option α) := ⟨fun {K S p kvs v x} h r => by
  cases x with
  | none => exact r
  | some y => exact NoD.go (x := y) h r⟩
end
section
variable {K : Fg} {B S0 S1 S S' D : Hp} {σ : L2.St} {H H' : Hp} {F : Nat → List Addr} {G G' G1 G2 G3 : List Sl} {ta tb tc te : TE} {i j : Nat} {t u : TS} {E : Ends}
def EvV {α : Type} [PyA α] (K : Fg) (ta : TA) (G : List Sl) (x : α) : Prop :=
  ∀ B S0 S σ H F, Kn K B S0 S σ H F G → ∀ Q : List V → Hp → Prop, (∀ vs, PyA.rep K S vs x → Q vs H) → ta σ H Q
end
end GL
namespace L2
open PySem PySem.Spec PyProof.Rows
section
variable {X : Cx}
def tSortSetT (K : PySem.W.Frag) (ta : TE) : TE := fun σ H Q => ta σ H fun x H1 => ∃ (l : Addr) (ns : List Int), x = V.ref l ∧ SqT K H1 l (ns.map V.int) ∧ ns.length < 64 ∧
  ∀ (ms : List Int) (p : Addr), ms.Pairwise (· < ·) → (∀ k : Int, k ∈ ms ↔ k ∈ ns) → H1 p = none → Q (.ref p) (upd H1 p (.lst (ms.map V.int)))
theorem pe_sortSetT {a : Expr} {ta : TE} {p p2 q pos : Pos} (hc : X.calm = true) (hg : Gl X "sorted") (hm : X.mg "sorted" = none) (hg2 : Gl X "set") (hm2 : X.mg "set" = none) (ha : PE X a ta)
    (na : starEach [a] X.env = (false, eval a X.env) :: starEach [] X.env := by rfl) : PE X (.Call (.Name "sorted" p) [.Call (.Name "set" p2) [a] [] q] [] pos) (tSortSetT X.K ta) := by
  refine ⟨fun pins s σ H Q I h => ?_⟩
  refine Call_ (ld_blt I hg hm PyProof.Rows.boot_sorted ?_)
  refine PyProof.Rows.callWith_builtin1 (PyProof.Rows.args_cons ?_ rfl) rfl rfl
  refine Call_ (ld_blt I hg2 hm2 PyProof.Rows.boot_set ?_)
  refine PyProof.Rows.callWith_type1 (PyProof.Rows.args_cons (thn (ha.run pins s σ H _ I h) fun v s1 ⟨x, H1, I1, r1, q1⟩ => PyProof.Rows.args_nil ?_) na) na rfl
  obtain ⟨l, ns, rfl, hq, h1, q1⟩ := q1
  cases r1
  obtain ⟨its, r, pl, hz⟩ := I1.tuple hq
  refine call_set_tupI ns (I1.ok.hd hc) (show s1.heap.IsTuple l its.toArray from pl) (by simpa using r.ints) (by unfold scanBound; omega) fun h' tk c R hcn hk => ?_
  refine PyProof.Rows.args_nil ?_
  have I2 : Inv X pins σ H1 { s1 with heap := h', toks := tk } := I1.kept hk
  refine sorted_set R (I2.ok.hd hc) (by omega) fun s' p out c ms k g o hp hg hi hs hm hl => ?_
  have hlen : (ms.map V.int).length ≤ sizeLine := by rw [List.length_map, hl, sizeLine_eq]; omega
  have hn : H1 p = none := I2.hok.fresh hp
  have J : Inv X pins σ (upd H1 p (.lst (ms.map V.int))) { { s1 with heap := h', toks := tk } with heap := s'.heap, gens := s'.gens, drawn := s'.drawn, toks := s'.toks } :=
    I2.call (ch := []) (Un.laid k hp hn) (I2.hok.laid k hp ⟨hlen, out.toList, c, vals_of_ints hi, hg⟩) (by rw [g]; exact I2.bare) (fun _ z => nomatch z)
  have e : s' = { { s1 with heap := h', toks := tk } with heap := s'.heap, gens := s'.gens, drawn := s'.drawn, toks := s'.toks } := by
    cases s'
    cases s1
    cases o
    rfl
  rw [e]
  exact ⟨.ref p, _, J, rfl, q1 ms p hs (fun k => by rw [hm k]; exact decide_eq_true_iff) hn⟩
end
end L2
namespace GL
open PySem PySem.Spec PyProof.Rows L2
structure T5 (α β γ δ ε : Type) where
  a : α
  b : β
  c : γ
  d : δ
  e : ε
  deriving DecidableEq
section
variable {α β γ δ ε : Type} [Py α] [Py β] [Py γ] [Py δ] [Py ε]
instance : Py (T5 α β γ δ ε) := ⟨fun K S v x => ∃ p a b c d e, v = .ref p ∧ SqT K S p [a, b, c, d, e] ∧ Py.rep K S a x.a ∧ Py.rep K S b x.b ∧ Py.rep K S c x.c ∧ Py.rep K S d x.d ∧ Py.rep K S e x.e,
  fun z ⟨p, a, b, c, d, e, h1, h2, h3, h4, h5, h6, h7⟩ => ⟨p, a, b, c, d, e, h1, seqT z h2, Py.mono z h3, Py.mono z h4, Py.mono z h5, Py.mono z h6, Py.mono z h7⟩⟩
instance [ToD α] [ToD β] [ToD γ] [ToD δ] [ToD ε] : ToD (T5 α β γ δ ε) := ⟨fun x => .tup [ToD.dat x.a, ToD.dat x.b, ToD.dat x.c, ToD.dat x.d, ToD.dat x.e], fun ⟨p, a, b, c, d, e, h1, h2, h3, h4, h5, h6, h7⟩ => by
  rw [h1]; exact .tup h2 (.cons (ToD.of h3) (.cons (ToD.of h4) (.cons (ToD.of h5) (.cons (ToD.of h6) (.cons (ToD.of h7) .nil)))))⟩
class NoL (α : Type) [Py α] : Prop where
  go : ∀ {K : Fg} {S : Hp} {p : Addr} {us : List V} {v : V} {x : α}, S p = some (.lst us) → Py.rep K S v x → Py.rep K (del S p) v x
end
theorem nlT {K : Fg} {S : Hp} {p a : Addr} {us : List V} {vs : List V} (h : S p = some (.lst us)) (r : SqT K S a vs) : SqT K (del S p) a vs := by
  rcases r with (r | ⟨o, r⟩) | r
  · exact .inl (.inl (by rw [del_ne (fun e => by rw [e, h] at r; cases r)]; exact r))
  · exact .inl (.inr ⟨o, by rw [del_ne (fun e => by rw [e, h] at r; cases r)]; exact r⟩)
  · exact .inr r
section
variable {α β γ δ ε : Type} [Py α] [Py β] [Py γ] [Py δ] [Py ε]
theorem nlAll [NoL α] {K : Fg} {S : Hp} {p : Addr} {us : List V} (h : S p = some (.lst us)) : ∀ {vs : List V} {xs : List α}, RepL K S vs xs → RepL K (del S p) vs xs
  | [], [], _ => True.intro
  | _ :: _, _ :: _, r => ⟨NoL.go h r.1, nlAll h r.2⟩
  | [], _ :: _, r => r.elim
  | _ :: _, [], r => r.elim
instance : NoL Int := ⟨fun _ h => h⟩
instance : NoL Bool := ⟨fun _ h => h⟩
instance : NoL Str := ⟨fun _ h => h⟩
instance : NoL Unit := ⟨fun _ h => h⟩
instance [NoL α] : NoL (Tp α) := ⟨fun h ⟨a, vs, h1, h2, h3⟩ => ⟨a, vs, h1, nlT h h2, nlAll h h3⟩⟩
instance [NoL α] [NoL β] : NoL (α × β) := ⟨fun h ⟨a, x, y, h1, h2, h3, h4⟩ => ⟨a, x, y, h1, nlT h h2, NoL.go h h3, NoL.go h h4⟩⟩
instance [NoL α] [NoL β] [NoL γ] : NoL (T3 α β γ) := ⟨fun h ⟨a, x, y, z, h1, h2, h3, h4, h5⟩ => ⟨a, x, y, z, h1, nlT h h2, NoL.go h h3, NoL.go h h4, NoL.go h h5⟩⟩
instance [NoL α] [NoL β] [NoL γ] [NoL δ] [NoL ε] : NoL (T5 α β γ δ ε) := ⟨fun h ⟨p, a, b, c, d, e, h1, h2, h3, h4, h5, h6, h7⟩ => ⟨p, a, b, c, d, e, h1, nlT h h2, NoL.go h h3, NoL.go h h4, NoL.go h h5, NoL.go h h6, NoL.go h h7⟩⟩
instance [NoL α] : NoL (Option α) := ⟨fun {K S p us v x} h r => by
  cases x with
  | none => exact r
  | some y => exact NoL.go (x := y) h r⟩
end
inductive WRow
  | set (p v : Int)
  | add (p q : Int)
  | jump (p r : Int)
  | say (p : Int)
  | take (p : Int)
  | fin
  deriving DecidableEq
instance : Inhabited WRow := ⟨.fin⟩
def sW (s : String) : Str := Str.ofString s
namespace WRow
def word : WRow → Str
  | .set _ _ => Str.ofString "set"
  | .add _ _ => Str.ofString "add"
  | .jump _ _ => Str.ofString "jump"
  | .say _ => Str.ofString "say"
  | .take _ => Str.ofString "take"
  | .fin => Str.ofString "end"
def nums : WRow → List Int
  | .set p v => [p, v]
  | .add p q => [p, q]
  | .jump p r => [p, r]
  | .say p => [p]
  | .take p => [p]
  | .fin => []
def vals (r : WRow) : List V := .str r.word :: r.nums.map V.int
def a1 (r : WRow) : Int := r.nums.getD 0 0
def a2 (r : WRow) : Int := r.nums.getD 1 0
def dat (r : WRow) : PyData := .tuple (.str r.word :: r.nums.map PyData.int)
end WRow
instance : Py WRow := ⟨fun K S v r => ∃ p, v = .ref p ∧ SqT K S p r.vals, fun e ⟨p, h1, h2⟩ => ⟨p, h1, seqT e h2⟩⟩
instance : NoL WRow := ⟨fun h ⟨p, h1, h2⟩ => ⟨p, h1, nlT h h2⟩⟩
section
variable {K : Fg} {B S0 S1 S S' D : Hp} {σ : L2.St} {H H' : Hp} {F : Nat → List Addr} {G G' G1 G2 G3 G4 G5 : List Sl} {ta tb tc td te : TE} {i j l : Nat} {t u : TS} {E : Ends}
section
variable {α β γ δ ε : Type} [Py α] [Py β] [Py γ] [Py δ] [Py ε]
theorem ev_t5 {x : α} {y : β} {z : γ} {w : δ} {v : ε} (ha : EvX K ta G x G1) (hb : EvX K tb G1 y G2) (hc : EvX K tc G2 z G3) (hd : EvX K td G3 w G4) (he : EvX K te G4 v G5) : EvX K (tTup (tCons ta (tCons tb (tCons tc (tCons td (tCons te tNil)))))) G (T5.mk x y z w v) G5 := fun B S0 S σ H F k Q q =>
  ha B S0 S σ H F k _ fun v1 S1 H1 e1 k1 r1 => hb B S0 S1 σ H1 F k1 _ fun v2 S2 H2 e2 k2 r2 => hc B S0 S2 σ H2 F k2 _ fun v3 S3 H3 e3 k3 r3 => hd B S0 S3 σ H3 F k3 _ fun v4 S4 H4 e4 k4 r4 => he B S0 S4 σ H4 F k4 _ fun v5 S5 H5 e5 k5 r5 => ⟨by show 5 ≤ sizeLine; decide, fun p hp => by
    have e6 := same_new (o := .tup [v1, v2, v3, v4, v5]) (k5.free hp).1
    exact q (.ref p) _ _ (((((e1.trans e2).trans e3).trans e4).trans e5).trans e6) (k5.new hp) ⟨p, v1, v2, v3, v4, v5, rfl, SqT.of upd_same, Py.mono ((((e2.trans e3).trans e4).trans e5).trans e6) r1, Py.mono (((e3.trans e4).trans e5).trans e6) r2, Py.mono ((e4.trans e5).trans e6) r3, Py.mono (e5.trans e6) r4, Py.mono e6 r5⟩⟩
variable {w : T5 α β γ δ ε}
theorem ev_5a (ha : EvX K ta G w G1) : EvX K (tOp (rIxT K) ta (tC (.int 0))) G w.a G1 := fun B S0 S σ H F k Q q =>
  ha B S0 S σ H F k _ fun v S1 H1 e1 k1 r1 => by
    obtain ⟨p, a, b, c, d, e, rfl, hp, h1, h2, h3, h4, h5⟩ := r1
    exact ⟨p, _, 0, a, rfl, rfl, seqT k1.sub hp, atI_nat (j := 0) rfl, q a S1 H1 e1 k1 h1⟩
theorem ev_5b (ha : EvX K ta G w G1) : EvX K (tOp (rIxT K) ta (tC (.int 1))) G w.b G1 := fun B S0 S σ H F k Q q =>
  ha B S0 S σ H F k _ fun v S1 H1 e1 k1 r1 => by
    obtain ⟨p, a, b, c, d, e, rfl, hp, h1, h2, h3, h4, h5⟩ := r1
    exact ⟨p, _, 1, b, rfl, rfl, seqT k1.sub hp, atI_nat (j := 1) rfl, q b S1 H1 e1 k1 h2⟩
theorem ev_5c (ha : EvX K ta G w G1) : EvX K (tOp (rIxT K) ta (tC (.int 2))) G w.c G1 := fun B S0 S σ H F k Q q =>
  ha B S0 S σ H F k _ fun v S1 H1 e1 k1 r1 => by
    obtain ⟨p, a, b, c, d, e, rfl, hp, h1, h2, h3, h4, h5⟩ := r1
    exact ⟨p, _, 2, c, rfl, rfl, seqT k1.sub hp, atI_nat (j := 2) rfl, q c S1 H1 e1 k1 h3⟩
theorem ev_5d (ha : EvX K ta G w G1) : EvX K (tOp (rIxT K) ta (tC (.int 3))) G w.d G1 := fun B S0 S σ H F k Q q =>
  ha B S0 S σ H F k _ fun v S1 H1 e1 k1 r1 => by
    obtain ⟨p, a, b, c, d, e, rfl, hp, h1, h2, h3, h4, h5⟩ := r1
    exact ⟨p, _, 3, d, rfl, rfl, seqT k1.sub hp, atI_nat (j := 3) rfl, q d S1 H1 e1 k1 h4⟩
theorem ev_5e (ha : EvX K ta G w G1) : EvX K (tOp (rIxT K) ta (tC (.int 4))) G w.e G1 := fun B S0 S σ H F k Q q =>
  ha B S0 S σ H F k _ fun v S1 H1 e1 k1 r1 => by
    obtain ⟨p, a, b, c, d, e, rfl, hp, h1, h2, h3, h4, h5⟩ := r1
    exact ⟨p, _, 4, e, rfl, rfl, seqT k1.sub hp, atI_nat (j := 4) rfl, q e S1 H1 e1 k1 h5⟩
theorem tg_t5 {g1 g2 g3 g4 g5 : TG} {t1 t2 t3 t4 t5 : List Nat} (h1 : TgG K g1 w.a G G1 t1) (h2 : TgG K g2 w.b G1 G2 t2) (h3 : TgG K g3 w.c G2 G3 t3) (h4 : TgG K g4 w.d G3 G4 t4) (h5 : TgG K g5 w.e G4 G5 t5) :
    TgG K (gTup K 5 (gCons g1 (gCons g2 (gCons g3 (gCons g4 (gCons g5 gNil)))))) w G G5 (t1 ++ (t2 ++ (t3 ++ (t4 ++ t5)))) :=
  ⟨fun j hj => (((((h5.1 j (notL (notL (notL (notL hj).2).2).2).2).trans (h4.1 j (notL (notL (notL (notL hj).2).2).2).1)).trans (h3.1 j (notL (notL (notL hj).2).2).1)).trans (h2.1 j (notL (notL hj).2).1)).trans (h1.1 j (notL hj).1)), fun B S0 S σ H F v k r Q q => by
  obtain ⟨p, a, b, c, d, e, rfl, hp, ra, rb, rc, rd, re⟩ := r
  refine ⟨p, [a, b, c, d, e], rfl, seqT k.sub hp, rfl, a, [b, c, d, e], rfl, h1.2 B S0 S σ H F a k ra _ fun σ1 k1 o1 w1 => ⟨b, [c, d, e], rfl, h2.2 B S0 S σ1 H F b k1 rb _ fun σ2 k2 o2 w2 => ⟨c, [d, e], rfl, h3.2 B S0 S σ2 H F c k2 rc _ fun σ3 k3 o3 w3 =>
    ⟨d, [e], rfl, h4.2 B S0 S σ3 H F d k3 rd _ fun σ4 k4 o4 w4 => ⟨e, [], rfl, h5.2 B S0 S σ4 H F e k4 re _ fun σ5 k5 o5 w5 => ⟨rfl, q σ5 k5 (fun j hj => ?_) fun vs hv => ?_⟩⟩⟩⟩⟩⟩
  · exact ((((o5 j (notL (notL (notL (notL hj).2).2).2).2).trans (o4 j (notL (notL (notL (notL hj).2).2).2).1)).trans (o3 j (notL (notL (notL hj).2).2).1)).trans (o2 j (notL (notL hj).2).1)).trans (o1 j (notL hj).1)
  · have m1 : ∀ t ∈ t1, t ∈ vs := fun t ht => hv t (List.mem_append_left _ ht)
    have m2 : ∀ t ∈ t2, t ∈ vs := fun t ht => hv t (List.mem_append_right _ (List.mem_append_left _ ht))
    have m3 : ∀ t ∈ t3, t ∈ vs := fun t ht => hv t (List.mem_append_right _ (List.mem_append_right _ (List.mem_append_left _ ht)))
    have m4 : ∀ t ∈ t4, t ∈ vs := fun t ht => hv t (List.mem_append_right _ (List.mem_append_right _ (List.mem_append_right _ (List.mem_append_left _ ht))))
    have m5 : ∀ t ∈ t5, t ∈ vs := fun t ht => hv t (List.mem_append_right _ (List.mem_append_right _ (List.mem_append_right _ (List.mem_append_right _ ht))))
    rw [w5 vs m5, w4 vs m4, w3 vs m3, w2 vs m2, w1 vs m1]⟩
theorem qg_t5 (i j l m n : Nat) (h : EvX K te G w G1) (hi : G1[i]?.isSome = true) (hj : (G1.set i (.im w.a))[j]?.isSome = true) (hl : ((G1.set i (.im w.a)).set j (.im w.b))[l]?.isSome = true) (hm : (((G1.set i (.im w.a)).set j (.im w.b)).set l (.im w.c))[m]?.isSome = true) (hn : ((((G1.set i (.im w.a)).set j (.im w.b)).set l (.im w.c)).set m (.im w.d))[n]?.isSome = true)
    (k : ∀ a b c d e, a = w.a → b = w.b → c = w.c → d = w.d → e = w.e → At K B S0 (u E) (((((G1.set i (.im a)).set j (.im b)).set l (.im c)).set m (.im d)).set n (.im e))) :
    At K B S0 (tSeq (tAsg te (gTup K 5 (gCons (gName i) (gCons (gName j) (gCons (gName l) (gCons (gName m) (gCons (gName n) gNil))))))) u E) G := q_asg h (tg_t5 (tg_name hi) (tg_name hj) (tg_name hl) (tg_name hm) (tg_name hn)) (k _ _ _ _ _ rfl rfl rfl rfl rfl)
theorem ev_catT {xs ys : Tp α} (ha : EvX K ta G xs G1) (hb : EvX K tb G1 ys G2) (hz : xs.l.length + ys.l.length ≤ sizeLine) : EvX K (tOp (rCatA K) ta tb) G (Tp.mk (xs.l ++ ys.l)) G2 := fun B S0 S σ H F k Q q =>
  ha B S0 S σ H F k _ fun v S1 H1 e1 k1 r1 => hb B S0 S1 σ H1 F k1 _ fun w S2 H2 e2 k2 r2 => by
    obtain ⟨p, vs, rfl, hp, hr⟩ := Py.mono e2 r1
    obtain ⟨p', vs', rfl, hp', hr'⟩ := r2
    refine ⟨p, p', vs, vs', rfl, rfl, seqT k2.sub hp, seqT k2.sub hp', by rw [hr.len, hr'.len]; exact hz, fun e => ?_, fun _ e => ?_, fun _ _ l hl => ?_⟩
    · have e1' : xs.l = [] := List.eq_nil_of_length_eq_zero (by rw [← hr.len, e]; rfl)
      exact q _ S2 H2 (e1.trans e2) k2 ⟨p', vs', rfl, hp', by show RepL K S2 vs' (xs.l ++ ys.l); rw [e1', List.nil_append]; exact hr'⟩
    · have e1' : ys.l = [] := List.eq_nil_of_length_eq_zero (by rw [← hr'.len, e]; rfl)
      exact q _ S2 H2 (e1.trans e2) k2 ⟨p, vs, rfl, hp, by show RepL K S2 vs (xs.l ++ ys.l); rw [e1', List.append_nil]; exact hr⟩
    · have e5 := same_new (o := .tup (vs ++ vs')) (k2.free hl).1
      exact q _ _ _ ((e1.trans e2).trans e5) (k2.new hl) ⟨l, _, rfl, SqT.of upd_same, (hr.app hr').mono e5⟩
end
variable {r : WRow}
theorem ev_sortSetT {xs : Tp Int} (h : EvX K ta G xs G1) (hz : xs.l.length < 64) : EvL K (tSortSetT K ta) G (usrt xs.l) G1 := fun B S0 S σ H F k Q q =>
  h B S0 S σ H F k _ fun v S1 H1 e1 k1 r1 => by
    obtain ⟨p, vs, rfl, hp, hr⟩ := r1
    rw [hr.ints] at hp
    refine ⟨p, xs.l, rfl, seqT k1.sub hp, hz, fun ms l h1 h2 hl => ?_⟩
    have e : ms = usrt xs.l := usrt_eq h1 h2
    subst e
    obtain ⟨a, b, c⟩ := k1.free hl
    exact q l _ S1 _ e1 (k1.raw hl) a b c upd_same (RepL.of_ints _)
end
end GL
namespace GL
open PySem PySem.Spec PyProof.Rows L2
structure T4 (α β γ δ : Type) where
  a : α
  b : β
  c : γ
  d : δ
  deriving DecidableEq
section
variable {α β γ δ ε : Type} [Py α] [Py β] [Py γ] [Py δ] [Py ε]
instance : Py (T4 α β γ δ) := ⟨fun K S v x => ∃ p a b c d, v = .ref p ∧ SqT K S p [a, b, c, d] ∧ Py.rep K S a x.a ∧ Py.rep K S b x.b ∧ Py.rep K S c x.c ∧ Py.rep K S d x.d,
  fun z ⟨p, a, b, c, d, h1, h2, h3, h4, h5, h6⟩ => ⟨p, a, b, c, d, h1, seqT z h2, Py.mono z h3, Py.mono z h4, Py.mono z h5, Py.mono z h6⟩⟩
instance (priority := 500) [Dq α] [Dq β] [Dq γ] [Dq δ] : Dq (T4 α β γ δ) := ⟨fun x => .tuple [Dq.dat x.a, Dq.dat x.b, Dq.dat x.c, Dq.dat x.d], fun x => Dq.ok x.a ∧ Dq.ok x.b ∧ Dq.ok x.c ∧ Dq.ok x.d, fun e ⟨p, a, b, c, d, h1, h2, h3, h4, h5, h6⟩ => by rw [h1]; exact .tup (seqT e h2) (.cons (Dq.dp e h3) (.cons (Dq.dp e h4) (.cons (Dq.dp e h5) (.cons (Dq.dp e h6) .nil)))),
  fun x h => by simp [PyData.canLay0, PyData.canLayAll0, Dq.lay _ h.1, Dq.lay _ h.2.1, Dq.lay _ h.2.2.1, Dq.lay _ h.2.2.2], max (Dq.dep α) (max (Dq.dep β) (max (Dq.dep γ) (Dq.dep δ))) + 1, fun x => by
    have h1 := Dq.dle x.a
    have h2 := Dq.dle x.b
    have h3 := Dq.dle x.c
    have h4 := Dq.dle x.d
    simp only [PyData.depth, PyData.depthAll]
    omega, fun x y => by
    simp only [PyData.eqv, PyData.eqvAll, Bool.and_eq_true, Dq.eq, and_true]
    cases x; cases y
    simp⟩
variable {K : Fg} {G G1 G2 G3 G4 : List Sl} {ta tb tc td : TE}
theorem ev_t4 {x : α} {y : β} {z : γ} {w : δ} (ha : EvX K ta G x G1) (hb : EvX K tb G1 y G2) (hc : EvX K tc G2 z G3) (hd : EvX K td G3 w G4) : EvX K (tTup (tCons ta (tCons tb (tCons tc (tCons td tNil))))) G (T4.mk x y z w) G4 := fun B S0 S σ H F k Q q =>
  ha B S0 S σ H F k _ fun v1 S1 H1 e1 k1 r1 => hb B S0 S1 σ H1 F k1 _ fun v2 S2 H2 e2 k2 r2 => hc B S0 S2 σ H2 F k2 _ fun v3 S3 H3 e3 k3 r3 => hd B S0 S3 σ H3 F k3 _ fun v4 S4 H4 e4 k4 r4 => ⟨by show 4 ≤ sizeLine; decide, fun p hp => by
    have e6 := same_new (o := .tup [v1, v2, v3, v4]) (k4.free hp).1
    exact q (.ref p) _ _ ((((e1.trans e2).trans e3).trans e4).trans e6) (k4.new hp) ⟨p, v1, v2, v3, v4, rfl, SqT.of upd_same, Py.mono (((e2.trans e3).trans e4).trans e6) r1, Py.mono ((e3.trans e4).trans e6) r2, Py.mono (e4.trans e6) r3, Py.mono e6 r4⟩⟩
theorem ev_ninT {tb : TE} {x : Int} {xs : Tp Int} (ha : EvX K ta G x G) (hb : EvX K tb G xs G) : EvX K (tOp (rIn K true) ta tb) G (!decide (x ∈ xs.l)) G := fun B S0 S σ H F k Q q =>
  ha B S0 S σ H F k _ fun v S1 H1 e1 k1 r1 => hb B S0 S1 σ H1 F k1 _ fun w S2 H2 e2 k2 r2 => by
    obtain ⟨p, vs, rfl, hp, hr⟩ := r2
    rw [hr.ints] at hp
    rw [show v = .int x from r1]
    exact ⟨p, _, rfl, .inr (seqT k2.sub hp), rfl, flat_ints _, q _ S2 H2 (e1.trans e2) k2 (by rw [inV_ints]; rfl)⟩
end
section
variable {K : Fg} {G G1 G2 : List Sl} {ta tb : TE}
theorem ev_lastC {α : Type} [Py α] [Inhabited α] {xs : List α} (ha : EvC K ta G xs G) (hb : EvX K tb G (-1) G) (h : 0 < xs.length) : EvX K (tOp (rIxL K) ta tb) G (lastI xs) G := fun B S0 S σ H F k Q q =>
  ha B S0 S σ H F k _ fun v S1 H1 e1 k1 r1 => hb B S0 S1 σ H1 F k1 _ fun u S2 H2 e2 k2 r2 => by
    obtain ⟨p, vs, rfl, hp, hr⟩ := (r1.mono e2).at k2
    obtain ⟨w, h1, h2⟩ := hr.get (ix_at (xs := xs) (i := (xs.length : Int) - 1) (by omega) (by omega))
    have hl := hr.len
    have e : atI vs (-1) = some w := by
      obtain ⟨init, last, rfl⟩ : ∃ init last, vs = init ++ [last] := by
        rcases List.eq_nil_or_concat vs with q | ⟨i, l, q⟩
        · rw [q] at hl; simp at hl; omega
        · exact ⟨i, l, by rw [q]; simp⟩
      rw [List.length_append, List.length_singleton] at hl
      rw [show ((xs.length : Int) - 1).toNat = init.length by omega, List.getElem?_append_right (Nat.le_refl _), Nat.sub_self] at h1
      have e1 : last = w := Option.some.inj h1
      rw [← e1]
      exact atI_last init last
    exact ⟨p, vs, -1, w, rfl, r2, SqL.of hp, e, q w S2 H2 (e1.trans e2) k2 h2⟩
end
end GL
namespace GL
open PySem PySem.Spec PyProof.Rows L2
namespace Dct
variable {α : Type}
theorem find_map (k : Int) (x : α) (j : Int) : ∀ l : List (Int × α), ((l.map fun kv => if kv.1 = k then (kv.1, x) else kv).find? fun kv => decide (kv.1 = j)).map (·.2) = ((l.find? fun kv => decide (kv.1 = j)).map (·.2)).map fun y => if j = k then x else y
  | [] => rfl
  | p :: l => by
    rw [List.map_cons, List.find?_cons, List.find?_cons]
    by_cases h1 : p.1 = j
    · by_cases h2 : p.1 = k
      · have : j = k := h1.symm.trans h2
        subst this
        simp [h1]
      · have : ¬ j = k := fun e => h2 (h1.trans e)
        simp [h1, this]
    · have ih := find_map k x j l
      by_cases h2 : p.1 = k
      · simp only [h2, if_true]
        have h3 : ¬ k = j := fun e => h1 (h2.trans e)
        simp only [decide_eq_false h3]
        exact ih
      · simp only [h2, if_false, decide_eq_false h1]
        exact ih
theorem any_find (k : Int) : ∀ l : List (Int × α), (l.any fun kv => decide (kv.1 = k)) = ((l.find? fun kv => decide (kv.1 = k)).map (·.2)).isSome
  | [] => rfl
  | p :: l => by
    rw [List.any_cons, List.find?_cons, any_find k l]
    by_cases h : p.1 = k
    · simp [h]
    · simp [h]
theorem find_snoc (k : Int) (x : α) (j : Int) : ∀ l : List (Int × α), ((l ++ [(k, x)]).find? fun kv => decide (kv.1 = j)).map (·.2) = match (l.find? fun kv => decide (kv.1 = j)).map (·.2) with | some y => some y | none => if j = k then some x else none
  | [] => by
    by_cases h : k = j
    · subst h; simp
    · have : ¬ j = k := fun e => h e.symm
      simp [h, this]
  | p :: l => by
    rw [List.cons_append, List.find?_cons, List.find?_cons]
    by_cases h : p.1 = j
    · simp [h]
    · simp only [decide_eq_false h]
      exact find_snoc k x j l
theorem get?_put (d : Dct α) (k : Int) (x : α) (j : Int) : (d.put k x).get? j = if j = k then some x else d.get? j := by
  unfold get? put
  by_cases h : (d.l.any fun kv => decide (kv.1 = k)) = true
  · simp only [h, if_true]
    rw [find_map]
    by_cases e : j = k
    · subst e
      rw [any_find] at h
      cases q : (d.l.find? fun kv => decide (kv.1 = j)).map (·.2) with
      | none => rw [q] at h; cases h
      | some y => simp
    · simp only [e, if_false]
      cases (d.l.find? fun kv => decide (kv.1 = j)).map (·.2) <;> rfl
  · simp only [h, if_false, Bool.false_eq_true]
    rw [find_snoc]
    by_cases e : j = k
    · subst e
      rw [any_find] at h
      cases q : (d.l.find? fun kv => decide (kv.1 = j)).map (·.2) with
      | none => simp
      | some y => rw [q] at h; exact absurd rfl h
    · simp only [e, if_false]
      cases (d.l.find? fun kv => decide (kv.1 = j)).map (·.2) <;> rfl
theorem get?_del (d : Dct α) (k j : Int) : (d.del k).get? j = if j = k then none else d.get? j := by
  unfold get? del
  show ((d.l.filter fun kv => decide (kv.1 ≠ k)).find? fun kv => decide (kv.1 = j)).map (·.2) = _
  induction d.l with
  | nil => simp
  | cons p l ih =>
    rw [List.filter_cons]
    by_cases h : p.1 = k
    · rw [if_neg (by simp [h]), ih, List.find?_cons]
      by_cases e : j = k
      · simp [e]
      · have : ¬ p.1 = j := fun q => e (q.symm.trans h)
        simp [e, this]
    · rw [if_pos (by simp [h]), List.find?_cons, List.find?_cons]
      by_cases e : p.1 = j
      · have : ¬ j = k := fun q => h (e.trans q)
        simp [e, this]
      · simp only [decide_eq_false e]
        exact ih
def Ok (d : Dct α) (m : Int) : Prop := (d.l.map (·.1)).Nodup ∧ ∀ k ∈ d.l.map (·.1), 0 ≤ k ∧ k < m
theorem Ok.emp {m : Int} : Ok (emp : Dct α) m := ⟨List.nodup_nil, fun _ h => by simp [Dct.emp] at h⟩
theorem keys_put (d : Dct α) (k : Int) (x : α) : (d.put k x).l.map (·.1) = if (d.l.any fun kv => decide (kv.1 = k)) = true then d.l.map (·.1) else d.l.map (·.1) ++ [k] := by
  unfold put
  by_cases h : (d.l.any fun kv => decide (kv.1 = k)) = true
  · simp only [h, if_true]
    rw [List.map_map]
    apply List.map_congr_left
    intro p _
    show (if p.1 = k then (p.1, x) else p).1 = p.1
    split <;> rfl
  · simp only [h, if_false, Bool.false_eq_true]
    rw [List.map_append]
    rfl
theorem Ok.put {d : Dct α} {m : Int} (h : d.Ok m) {k : Int} (x : α) (hk : 0 ≤ k ∧ k < m) : (d.put k x).Ok m := by
  unfold Ok
  rw [keys_put]
  by_cases q : (d.l.any fun kv => decide (kv.1 = k)) = true
  · rw [if_pos q]
    exact h
  · rw [if_neg q]
    refine ⟨?_, fun j hj => ?_⟩
    · refine L2.nd_snoc h.1 fun hm => q ?_
      obtain ⟨p, hp, e⟩ := List.mem_map.mp hm
      exact List.any_eq_true.mpr ⟨p, hp, decide_eq_true e⟩
    · rcases List.mem_append.mp hj with z | z
      · exact h.2 j z
      · rw [List.mem_singleton.mp z]
        exact hk
theorem Ok.del {d : Dct α} {m : Int} (h : d.Ok m) (k : Int) : (d.del k).Ok m := by
  refine ⟨?_, fun j hj => ?_⟩
  · show ((d.l.filter fun kv => decide (kv.1 ≠ k)).map (·.1)).Nodup
    exact (List.Sublist.map _ (List.filter_sublist)).nodup h.1
  · obtain ⟨p, hp, e⟩ := List.mem_map.mp hj
    exact h.2 j (List.mem_map.mpr ⟨p, (List.mem_filter.mp hp).1, e⟩)
theorem nodup_le : ∀ (n : Nat) (l : List Int), l.Nodup → (∀ k ∈ l, 0 ≤ k ∧ k < (n : Int)) → l.length ≤ n
  | 0, l, _, h => by
    cases l with
    | nil => exact Nat.le_refl _
    | cons x l => exact absurd (h x List.mem_cons_self) (by omega)
  | n + 1, l, hn, h => by
    have h1 := nodup_le n (l.filter fun k => decide (k ≠ (n : Int))) (List.filter_sublist.nodup hn) fun k hk => by
      obtain ⟨a, b⟩ := List.mem_filter.mp hk
      have := h k a
      have : k ≠ (n : Int) := of_decide_eq_true b
      omega
    have h2 : l.length ≤ (l.filter fun k => decide (k ≠ (n : Int))).length + 1 := by
      clear h h1
      induction l with
      | nil => exact Nat.zero_le _
      | cons x l ih =>
        obtain ⟨q1, q2⟩ := List.nodup_cons.mp hn
        rw [List.filter_cons]
        by_cases e : x = (n : Int)
        · rw [if_neg (by simp [e])]
          have : l.filter (fun k => decide (k ≠ (n : Int))) = l := by
            apply List.filter_eq_self.mpr
            intro k hk
            exact decide_eq_true fun z => q1 (e.trans z.symm ▸ hk)
          rw [this, List.length_cons]
          exact Nat.le_refl _
        · rw [if_pos (by simp [e]), List.length_cons, List.length_cons]
          have := ih q2
          omega
    omega
theorem Ok.len {d : Dct α} {n : Nat} (h : d.Ok (n : Int)) : d.l.length ≤ n := by
  have := nodup_le n (d.l.map (·.1)) h.1 h.2
  rw [List.length_map] at this
  exact this
theorem Ok.small {d : Dct α} (h : d.Ok 1000) : d.l.length < sizeLine := Nat.lt_of_le_of_lt (Ok.len (n := 1000) h) (by decide)
end Dct
theorem dix_of {α : Type} [Inhabited α] {d : Dct α} {k : Int} {x : α} (h : d.get? k = some x) : dix d k = x := by
  unfold dix
  rw [h]
  rfl
theorem mem_rng {a b x : Int} : x ∈ rng a b ↔ a ≤ x ∧ x < b := by
  unfold rng
  rw [List.mem_map]
  constructor
  · rintro ⟨i, hi, rfl⟩
    rw [List.mem_range] at hi
    omega
  · intro h
    refine ⟨(x - a).toNat, List.mem_range.mpr (by omega), by omega⟩
theorem len_rng (a b : Int) : (rng a b).length = (b - a).toNat := by
  unfold rng
  rw [List.length_map, List.length_range]
theorem rng_get {a b : Int} {i : Nat} (h : i < (b - a).toNat) : (rng a b)[i]? = some (a + (i : Int)) := by
  unfold rng
  rw [List.getElem?_map, List.getElem?_range h]
  rfl
theorem rng_succ {a b : Int} (h : a ≤ b) : rng a (b + 1) = rng a b ++ [b] := by
  unfold rng
  rw [show (b + 1 - a).toNat = (b - a).toNat + 1 by omega, List.range_succ, List.map_append]
  congr 1
  rw [List.map_cons, List.map_nil]
  congr 1
  omega
theorem rng_nil {a b : Int} (h : b ≤ a) : rng a b = [] := by
  unfold rng
  rw [show (b - a).toNat = 0 by omega]
  rfl
theorem rng_sorted (a b : Int) : (rng a b).Pairwise (· < ·) := by
  unfold rng
  rw [List.pairwise_map]
  exact List.pairwise_lt_range.imp fun h => by omega
theorem rng_pre {a b x : Int} {pre post : List Int} (h : pre ++ x :: post = rng a b) : pre = rng a x ∧ x = a + pre.length ∧ a ≤ x ∧ x < b := by
  have hx : (rng a b)[pre.length]? = some x := by
    rw [← h, List.getElem?_append_right (Nat.le_refl _), Nat.sub_self]
    rfl
  have hl : pre.length < (b - a).toNat := by
    have := congrArg List.length h
    rw [List.length_append, List.length_cons, len_rng] at this
    omega
  rw [rng_get hl] at hx
  have ex : a + (pre.length : Int) = x := Option.some.inj hx
  refine ⟨?_, ex.symm, by omega, by omega⟩
  apply List.ext_getElem?
  intro i
  by_cases hi : i < pre.length
  · have : (rng a b)[i]? = pre[i]? := by rw [← h, List.getElem?_append_left hi]
    rw [← this, rng_get (by omega), rng_get (by omega)]
  · rw [List.getElem?_eq_none (by omega), List.getElem?_eq_none (by rw [len_rng]; omega)]
theorem mem_enumI {α : Type} {xs : List α} {p : Int × α} : p ∈ enumI xs ↔ 0 ≤ p.1 ∧ xs[p.1.toNat]? = some p.2 := by
  unfold enumI
  rw [List.mem_map]
  constructor
  · rintro ⟨q, hq, rfl⟩
    have h := List.mem_zipIdx_iff_getElem?.mp hq
    exact ⟨by simp, by simpa using h⟩
  · rintro ⟨h0, h⟩
    refine ⟨(p.2, p.1.toNat), List.mem_zipIdx_iff_getElem?.mpr (by simpa using h), ?_⟩
    apply Prod.ext
    · show ((p.1.toNat : Nat) : Int) = p.1
      omega
    · rfl
theorem len_enumI {α : Type} (xs : List α) : (enumI xs).length = xs.length := by
  unfold enumI
  rw [List.length_map, List.length_zipIdx]
instance : Inhabited (Tp Int) := ⟨⟨[]⟩⟩
structure TrOk (trace : List (Tp Int)) : Prop where
  len : trace.length ≤ 100000
  mem : ∀ t ∈ trace, ∀ s ∈ t.l, 0 ≤ s ∧ s < 1000
theorem ix_mem {α : Type} [Inhabited α] {xs : List α} {i : Int} (h0 : 0 ≤ i) (h : i < xs.length) : ix xs i ∈ xs := List.mem_of_getElem? (ix_at h0 h)
def writtenStep (trace : List (Tp Int)) (found : Dct Int) (tick : Int) : Dct Int := (ix trace tick).l.foldl (fun f x => f.put x tick) found
def writtenIn (trace : List (Tp Int)) (start stop : Int) : Dct Int := (rng start (min stop trace.length)).foldl (writtenStep trace) Dct.emp
def lastN (trace : List (Tp Int)) : Nat → Int → Option Int
  | 0, _ => none
  | n + 1, s => if s ∈ (trace.getD n ⟨[]⟩).l then some (n : Int) else lastN trace n s
theorem get?_puts (tick : Int) (s : Int) : ∀ (l : List Int) (d : Dct Int), (l.foldl (fun f x => f.put x tick) d).get? s = if s ∈ l then some tick else d.get? s
  | [], d => by simp
  | x :: l, d => by
    rw [List.foldl_cons, get?_puts tick s l, Dct.get?_put]
    by_cases h1 : s ∈ l
    · simp [h1]
    · by_cases h2 : s = x
      · simp [h2]
      · simp [h1, h2]
theorem lastN_more (trace : List (Tp Int)) (s : Int) : ∀ n, trace.length ≤ n → lastN trace n s = lastN trace trace.length s := by
  intro n h
  induction n with
  | zero => rw [show trace.length = 0 by omega]
  | succ n ih =>
    by_cases e : trace.length = n + 1
    · rw [e]
    · rw [lastN, if_neg, ih (by omega)]
      rw [List.getD_eq_getElem?_getD, List.getElem?_eq_none (by omega)]
      simp
theorem written_last (trace : List (Tp Int)) (s : Int) : ∀ n : Nat, n ≤ trace.length → ((rng 0 (n : Int)).foldl (writtenStep trace) Dct.emp).get? s = lastN trace n s
  | 0, _ => by rw [rng_nil (by omega)]; rfl
  | n + 1, h => by
    rw [show ((n + 1 : Nat) : Int) = (n : Int) + 1 by omega, rng_succ (by omega), List.foldl_append, List.foldl_cons, List.foldl_nil]
    show ((ix trace (n : Int)).l.foldl (fun (f : Dct Int) x => f.put x (n : Int)) _).get? s = _
    rw [get?_puts, written_last trace s n (by omega), lastN]
    have : ix trace (n : Int) = trace.getD n ⟨[]⟩ := by unfold ix; rfl
    rw [this]
theorem writtenIn_get (trace : List (Tp Int)) (stop s : Int) : (writtenIn trace 0 stop).get? s = lastN trace stop.toNat s := by
  unfold writtenIn
  by_cases h : stop < 0
  · rw [rng_nil (by omega), show stop.toNat = 0 by omega]
    rfl
  · by_cases h2 : stop ≤ trace.length
    · rw [Int.min_eq_left h2]
      have e : stop = ((stop.toNat : Nat) : Int) := by omega
      rw [e]
      rw [written_last trace s stop.toNat (by omega)]
      rfl
    · rw [Int.min_eq_right (by omega), written_last trace s trace.length (Nat.le_refl _), lastN_more trace s stop.toNat (by omega)]
end GL
namespace GL
open PySem PySem.Spec PyProof.Rows L2
structure SzOk (y : T3 Int Int Int) : Prop where
  n0 : 1 ≤ y.a
  n1 : y.a ≤ 12
  b0 : 1 ≤ y.b
  b1 : y.b ≤ 6
  s0 : 0 ≤ y.c
  s1 : y.c ≤ 12
structure RowOk (n : Int) (t : Tp Int) : Prop where
  up : t.l.Pairwise (· < ·)
  bd : ∀ s ∈ t.l, 0 ≤ s ∧ s < n
structure TrLaw (n most : Int) (tr : List (Tp Int)) : Prop where
  len : (tr.length : Int) ≤ most
  row : ∀ t ∈ tr, RowOk n t
theorem Dct.Ok.mono {α : Type} {d : Dct α} {m m' : Int} (h : d.Ok m) (hm : m ≤ m') : d.Ok m' := ⟨h.1, fun k hk => by have := h.2 k hk; omega⟩
theorem TrLaw.ok {n most : Int} {tr : List (Tp Int)} (h : TrLaw n most tr) (hn : n ≤ 1000) (hm : most ≤ 100000) : TrOk tr := ⟨by have := h.len; omega, fun t ht s hs => by have := (h.row t ht).bd s hs; omega⟩
end GL
namespace GL
open PySem PySem.Spec PyProof.Rows L2
def someM (z : Pen) (n most : Int) : Tp Int × Pen := (⟨(pickX (fun st (_ : Int) => decide ((penTake st n).1 < most)) (fun x => x) (fun st _ => (penTake st n).2) (rng 0 n) z).1⟩, (rng 0 n).foldl (fun st _ => (penTake st n).2) z)
abbrev Tch := List (Tp Int × Tp Int)
def TchOk (n : Int) (y : Tch) : Prop := ∀ t ∈ y, RowOk n t.1 ∧ RowOk n t.2
def wrD (d : Dct Bool) (ws : List Int) : Dct Bool := ws.foldl (fun f x => f.put x true) d
def ndNew (needed : List Int) (written : Dct Bool) (reads : List Int) : List Int := reads.filter fun x => !decide (x ∈ needed) && !(written.get? x).isSome
abbrev LlS := List Int × Dct Bool × Int × Option Int
def llStep (st : LlS) (it : Int × (Tp Int × Tp Int)) : LlS :=
  (st.1 ++ ndNew st.1 st.2.1 it.2.1.l, wrD st.2.1 it.2.2.l,
   if decide (st.2.2.1 < (((st.1 ++ ndNew st.1 st.2.1 it.2.1.l).length : Int) - it.1)) = true then ((st.1 ++ ndNew st.1 st.2.1 it.2.1.l).length : Int) - it.1 else st.2.2.1,
   if decide (st.2.2.1 < (((st.1 ++ ndNew st.1 st.2.1 it.2.1.l).length : Int) - it.1)) = true then some it.1 else st.2.2.2)
@[irreducible] def llM (n : Int) (y : Tch) : T3 (List Int) Int (Option Int) :=
  ⟨((enumI y).foldl llStep ([], Dct.emp, 0, none)).1 ++ (rng 0 n).filter (fun x => !decide (x ∈ ((enumI y).foldl llStep ([], Dct.emp, 0, none)).1)), ((enumI y).foldl llStep ([], Dct.emp, 0, none)).2.2.1, ((enumI y).foldl llStep ([], Dct.emp, 0, none)).2.2.2⟩
def waStep (st : List Int × List Int) (t : Tp Int × Tp Int) : List Int × List Int := (st.1 ++ t.2.l, st.2 ++ t.1.l.filter fun x => !decide (x ∈ st.2) && !decide (x ∈ st.1))
@[irreducible] def wantM (y : Tch) : Int := ((y.foldl waStep ([], [])).2.length : Int)
def laM (reads : List Int) (written : Dct Bool) (came : Dct Int) (now : Int) : List Int := reads.filter fun p => !(written.get? p).isSome && decide (now ≤ (came.get? p).getD now)
def leM (order : List Int) (written : Dct Bool) (came : Dct Int) : List Int := order.filter fun p => !(written.get? p).isSome && !(came.get? p).isSome
def goX (reads order : List Int) (written : Dct Bool) (asks : Bool) (s : Dct Int × Int) : Int := ix [ix (leM order written s.1) 0, ix (laM reads written s.1 s.2) 0] (if asks = true then 1 else 0)
def goM (reads order : List Int) (written : Dct Bool) (asks : Bool) : Nat → Dct Int × Int → Dct Int × Int
  | 0, s => s
  | k + 1, s => if laM reads written s.1 s.2 = [] then s else goM reads order written asks k (s.1.put (goX reads order written asks s) s.2, s.2 + 1)
def CameOk (came : Dct Int) (now : Int) : Prop := (∀ x c, came.get? x = some c → c < now) ∧ came.Ok 1000
theorem la_none {reads : List Int} {written : Dct Bool} {came : Dct Int} {now x : Int} (h : CameOk came now) (hx : x ∈ laM reads written came now) : x ∈ reads ∧ (written.get? x).isSome = false ∧ (came.get? x).isSome = false := by
  obtain ⟨h1, h2⟩ := List.mem_filter.mp hx
  obtain ⟨h3, h4⟩ := Bool.and_eq_true_iff.mp h2
  refine ⟨h1, by simpa using h3, ?_⟩
  cases e : came.get? x with
  | none => rfl
  | some c =>
    rw [e] at h4
    have := h.1 x c e
    have := of_decide_eq_true h4
    dsimp only [Option.getD] at this
    omega
theorem le_of_la {reads order : List Int} {written : Dct Bool} {came : Dct Int} {now x : Int} (h : CameOk came now) (ho : ∀ x ∈ reads, x ∈ order) (hx : x ∈ laM reads written came now) : x ∈ leM order written came := by
  obtain ⟨h1, h2, h3⟩ := la_none h hx
  exact List.mem_filter.mpr ⟨ho x h1, by rw [h2, h3]; rfl⟩
theorem ix0_mem {xs : List Int} (h : xs ≠ []) : ix xs 0 ∈ xs := ix_mem (by omega) (by have := List.length_pos_iff.mpr h; omega)
theorem goX_mem {reads order : List Int} {written : Dct Bool} {asks : Bool} {came : Dct Int} {now : Int} (h : CameOk came now) (ho : ∀ x ∈ reads, x ∈ order) (hl : laM reads written came now ≠ []) : goX reads order written asks (came, now) ∈ leM order written came := by
  have h1 := le_of_la h ho (ix0_mem hl)
  unfold goX
  cases asks with
  | true => exact h1
  | false => exact ix0_mem (List.ne_nil_of_mem h1)
theorem le_less {order : List Int} {written : Dct Bool} {came : Dct Int} {x now : Int} (hx : x ∈ leM order written came) : (leM order written (came.put x now)).length < (leM order written came).length := by
  have e : leM order written (came.put x now) = (leM order written came).filter fun p => decide (p ≠ x) := by
    unfold leM
    rw [List.filter_filter]
    apply List.filter_congr
    intro p _
    rw [Dct.get?_put]
    by_cases q : p = x
    · rw [if_pos q, decide_eq_false (by simpa using q)]
      simp
    · rw [if_neg q, decide_eq_true (by simpa using q)]
      simp
  rw [e]
  have := List.length_filter_lt_length_iff_exists (p := fun p => decide (p ≠ x)) (l := leM order written came)
  exact this.mpr ⟨x, hx, by simp⟩
theorem CameOk.put {came : Dct Int} {now x : Int} (h : CameOk came now) (hx : 0 ≤ x ∧ x < 1000) : CameOk (came.put x now) (now + 1) := by
  refine ⟨fun y c e => ?_, h.2.put _ hx⟩
  rw [Dct.get?_put] at e
  by_cases q : y = x
  · rw [if_pos q] at e
    have : now = c := Option.some.inj e
    omega
  · rw [if_neg q] at e
    have := h.1 y c e
    omega
theorem goM_end {reads order : List Int} {written : Dct Bool} {asks : Bool} {f : Nat} {s : Dct Int × Int} (h : laM reads written s.1 s.2 = []) : goM reads order written asks f s = s := by
  cases f with
  | zero => rfl
  | succ f => rw [goM, if_pos h]
def GoI (reads order : List Int) (written : Dct Bool) (asks : Bool) (X : Dct Int × Int) (st : Dct Int × Int × List Int) : Prop :=
  st.2.2 = laM reads written st.1 st.2.1 ∧ CameOk st.1 st.2.1 ∧ ∃ f, goM reads order written asks f (st.1, st.2.1) = X ∧ (leM order written st.1).length < f
theorem GoI.next {reads order : List Int} {written : Dct Bool} {asks : Bool} {X : Dct Int × Int} {came : Dct Int} {now : Int} {lacks : List Int} (I : GoI reads order written asks X (came, now, lacks)) (ho : ∀ x ∈ reads, x ∈ order) (hb : ∀ x ∈ order, 0 ≤ x ∧ x < 1000) (hl : lacks ≠ []) :
    GoI reads order written asks X (came.put (goX reads order written asks (came, now)) now, now + 1, laM reads written (came.put (goX reads order written asks (came, now)) now) (now + 1)) ∧ (leM order written (came.put (goX reads order written asks (came, now)) now)).length < (leM order written came).length := by
  obtain ⟨h1, h2, f, h3, h4⟩ := I
  dsimp only at h1 h2 h3 h4
  rw [h1] at hl
  have hm := goX_mem (asks := asks) h2 ho hl
  have hd := le_less (now := now) hm
  have hx := hb _ (List.mem_filter.mp hm).1
  refine ⟨⟨rfl, h2.put hx, ?_⟩, hd⟩
  cases f with
  | zero => omega
  | succ f =>
    rw [goM, if_neg hl] at h3
    exact ⟨f, h3, by dsimp only; omega⟩
abbrev PlS := Dct Int × Dct Bool × List Int × Int
def plStep (order : List Int) (asks : Bool) (st : PlS) (t : Tp Int × Tp Int) : PlS :=
  ((cutL (leM order (wrD st.2.1 t.2.l) (goM t.1.l order st.2.1 asks (order.length + 1) (st.1, st.2.2.2)).1) none (some 1)).foldl (fun d p => d.put p (goM t.1.l order st.2.1 asks (order.length + 1) (st.1, st.2.2.2)).2) (goM t.1.l order st.2.1 asks (order.length + 1) (st.1, st.2.2.2)).1,
   wrD st.2.1 t.2.l, st.2.2.1 ++ [(goM t.1.l order st.2.1 asks (order.length + 1) (st.1, st.2.2.2)).2], (goM t.1.l order st.2.1 asks (order.length + 1) (st.1, st.2.2.2)).2 + 1)
@[irreducible] def playG (y : Tch) (order : List Int) (asks : Bool) : List Int × Int :=
  ((y.foldl (plStep order asks) (Dct.emp, Dct.emp, [], 0)).2.2.1, maxL ([0] ++ (cutL (y.foldl (plStep order asks) (Dct.emp, Dct.emp, [], 0)).2.2.1 none (some 1)).map fun _ => lastI (y.foldl (plStep order asks) (Dct.emp, Dct.emp, [], 0)).2.2.1 - ((y.foldl (plStep order asks) (Dct.emp, Dct.emp, [], 0)).2.2.1.length : Int) + 1))
def PlOk (st : PlS) : Prop := CameOk st.1 st.2.2.2 ∧ st.2.1.Ok 1000
end GL
namespace GL
open PySem PySem.Spec PyProof.Rows L2
abbrev OrS := Pen × List Int
def orE (st : OrS) (_ : Int) : Int := ix st.2 (penTake st.1 (st.2.length : Int)).1
def orStep (st : OrS) (_ : Int) : OrS := ((penTake st.1 (st.2.length : Int)).2, st.2.eraseIdx (penTake st.1 (st.2.length : Int)).1.toNat)
@[irreducible] def orderM (z : Pen) (n : Int) : List Int := (mapX orE orStep (rng 0 n) (z, rng 0 n)).1
def nextM (order : List Int) (here : Dct Bool) : Option Int := order.find? fun x => !(here.get? x).isSome
def lackQ (reads : List Int) (here : Dct Bool) : List Int := reads.filter fun x => !(here.get? x).isSome
def HereR (here written : Dct Bool) (came : Dct Int) : Prop := ∀ x, (here.get? x).isSome = ((written.get? x).isSome || (came.get? x).isSome)
theorem lack_la {reads : List Int} {here written : Dct Bool} {came : Dct Int} {now : Int} (h : HereR here written came) (hc : CameOk came now) : lackQ reads here = laM reads written came now := by
  unfold lackQ laM
  apply List.filter_congr
  intro x _
  rw [h x]
  cases e : came.get? x with
  | none => simp
  | some c =>
    have := hc.1 x c e
    simp only [Option.isSome_some, Bool.or_true, Bool.not_true, Option.getD_some]
    rw [decide_eq_false (by omega), Bool.and_false]
theorem lackQ_le {order : List Int} {here written : Dct Bool} {came : Dct Int} (h : HereR here written came) : lackQ order here = leM order written came := by
  unfold lackQ leM
  apply List.filter_congr
  intro x _
  rw [h x, Bool.not_or]
theorem next_lack (order : List Int) (here : Dct Bool) : nextM order here = (lackQ order here).head? := by
  unfold nextM lackQ
  rw [List.head?_filter]
theorem HereR.put {here written : Dct Bool} {came : Dct Int} (h : HereR here written came) (x now : Int) : HereR (here.put x true) written (came.put x now) := fun y => by
  rw [Dct.get?_put, Dct.get?_put]
  by_cases e : y = x
  · rw [if_pos e, if_pos e]
    simp
  · rw [if_neg e, if_neg e]
    exact h y
def GbI (reads order : List Int) (written : Dct Bool) (asks : Bool) (X : Dct Int × Int) (st : Dct Bool × Int) : Prop :=
  ∃ came, HereR st.1 written came ∧ st.1.Ok 1000 ∧ GoI reads order written asks X (came, st.2, laM reads written came st.2)
theorem head_ix {xs : List Int} (h : xs ≠ []) : xs.head? = some (ix xs 0) := by
  cases xs with
  | nil => exact absurd rfl h
  | cons x xs => rfl
def comM (reads order : List Int) (here : Dct Bool) (asks : Bool) : Option Int := if asks = true then some (ix (lackQ reads here) 0) else nextM order here
theorem GbI.next {reads order : List Int} {written here : Dct Bool} {asks : Bool} {X : Dct Int × Int} {now : Int} (I : GbI reads order written asks X (here, now)) (ho : ∀ x ∈ reads, x ∈ order) (hb : ∀ x ∈ order, 0 ≤ x ∧ x < 1000) (hl : lackQ reads here ≠ []) :
    (comM reads order here asks).isSome = true ∧ (0 ≤ (comM reads order here asks).getD default ∧ (comM reads order here asks).getD default < 1000) ∧ GbI reads order written asks X (here.put ((comM reads order here asks).getD default) true, now + 1) ∧ (lackQ order (here.put ((comM reads order here asks).getD default) true)).length < (lackQ order here).length := by
  obtain ⟨came, h1, hok, h2⟩ := I
  dsimp only at h1 h2 hok
  have hcam := h2.2.1
  dsimp only at hcam
  have hla := lack_la (reads := reads) h1 hcam
  have hl' : laM reads written came now ≠ [] := by rw [← hla]; exact hl
  obtain ⟨n1, n2⟩ := h2.next ho hb hl'
  have hm := goX_mem (asks := asks) hcam ho hl'
  have e : comM reads order here asks = some (goX reads order written asks (came, now)) := by
    unfold comM goX
    rw [next_lack, hla, lackQ_le h1]
    cases asks with
    | true => rfl
    | false =>
      rw [if_neg (by decide)]
      exact head_ix (List.ne_nil_of_mem hm)
  have hx := hb _ (List.mem_filter.mp hm).1
  rw [e]
  have h4 := h1.put (goX reads order written asks (came, now)) now
  refine ⟨rfl, hx, ⟨_, h4, hok.put _ hx, n1⟩, ?_⟩
  show (lackQ order (here.put (goX reads order written asks (came, now)) true)).length < _
  rw [lackQ_le h4, lackQ_le h1]
  exact n2
theorem GbI.stop {reads order : List Int} {written here : Dct Bool} {asks : Bool} {X : Dct Int × Int} {now : Int} (I : GbI reads order written asks X (here, now)) (hl : lackQ reads here = []) : HereR here written X.1 ∧ X.2 = now ∧ CameOk X.1 now ∧ here.Ok 1000 := by
  obtain ⟨came, h1, hok, h2, h3, f, h4, h5⟩ := I
  dsimp only at h1 h3 h4 hok
  have hla := lack_la (reads := reads) h1 h3
  have e : X = (came, now) := by rw [← h4, goM_end (by rw [← hla]; exact hl)]
  rw [e]
  exact ⟨h1, rfl, h3, hok⟩
def GnI (order : List Int) (asks : Bool) (pre : Tch) (st : Dct Bool × List Int × Int) : Prop :=
  ∃ came written, pre.foldl (plStep order asks) (Dct.emp, Dct.emp, [], 0) = (came, written, st.2.1, st.2.2) ∧ HereR st.1 written came ∧ st.1.Ok 1000 ∧ (pre.length : Int) ≤ st.2.2 ∧ st.2.1.length = pre.length ∧ (st.2.1 ≠ [] → lastI st.2.1 + 1 = st.2.2)
theorem GnI.start (order : List Int) (asks : Bool) : GnI order asks [] (Dct.emp, [], 0) := ⟨Dct.emp, Dct.emp, rfl, fun x => rfl, Dct.Ok.emp, Int.le_refl _, rfl, fun h => absurd rfl h⟩
theorem goM_ge {reads order : List Int} {written : Dct Bool} {asks : Bool} : ∀ (f : Nat) (s : Dct Int × Int), s.2 ≤ (goM reads order written asks f s).2
  | 0, s => Int.le_refl _
  | f + 1, s => by
    rw [goM]
    split
    · exact Int.le_refl _
    · have := goM_ge (reads := reads) (order := order) (written := written) (asks := asks) f (s.1.put (goX reads order written asks s) s.2, s.2 + 1)
      dsimp only at this
      exact Int.le_trans (by omega) this
theorem lastI_snoc (xs : List Int) (x : Int) : lastI (xs ++ [x]) = x := by
  unfold lastI ix
  simp
theorem GnI.step {order : List Int} {asks : Bool} {pre : Tch} {t : Tp Int × Tp Int} {came : Dct Int} {written here here2 : Dct Bool} {done : List Int} {now : Int}
    (hst : pre.foldl (plStep order asks) (Dct.emp, Dct.emp, [], 0) = (came, written, done, now)) (hlen : (pre.length : Int) ≤ now) (hdl : done.length = pre.length)
    (h : HereR here (wrD written t.2.l) (goM t.1.l order written asks (order.length + 1) (came, now)).1)
    (h2 : here2 = match nextM order here with | none => here | some x => here.put x true) (hok : here2.Ok 1000) :
    GnI order asks (pre ++ [t]) (here2, done ++ [(goM t.1.l order written asks (order.length + 1) (came, now)).2], (goM t.1.l order written asks (order.length + 1) (came, now)).2 + 1) := by
  have hge := goM_ge (reads := t.1.l) (order := order) (written := written) (asks := asks) (order.length + 1) (came, now)
  dsimp only at hge
  refine ⟨_, _, by rw [List.foldl_append, hst]; rfl, ?_, hok, ?_, ?_, ?_⟩
  · show HereR here2 (wrD written t.2.l) ((cutL (leM order (wrD written t.2.l) (goM t.1.l order written asks (order.length + 1) (came, now)).1) none (some 1)).foldl (fun d p => d.put p (goM t.1.l order written asks (order.length + 1) (came, now)).2) (goM t.1.l order written asks (order.length + 1) (came, now)).1)
    rw [h2, next_lack, lackQ_le h]
    cases leM order (wrD written t.2.l) (goM t.1.l order written asks (order.length + 1) (came, now)).1 with
    | nil => exact h
    | cons x xs => exact h.put x _
  · rw [List.length_append, List.length_singleton]
    dsimp only
    omega
  · dsimp only
    rw [List.length_append, List.length_append, hdl]
    rfl
  · intro _
    dsimp only
    rw [lastI_snoc]
theorem GnI.end {order : List Int} {asks : Bool} {y : Tch} {here : Dct Bool} {done : List Int} {now : Int} (I : GnI order asks y (here, done, now)) :
    playG y order asks = (done, if done = [] then 0 else lastI done - (done.length : Int) + 1) := by
  obtain ⟨came, written, h1, h2, _, h3, h4, h5⟩ := I
  dsimp only at h1 h3 h4 h5
  unfold playG
  rw [h1]
  dsimp only
  cases done with
  | nil => rfl
  | cons x xs =>
    have h6 := h5 (by simp)
    rw [if_neg (by simp)]
    have e : cutL (x :: xs) none (some 1) = [x] := rfl
    rw [e]
    congr 1
    show max (0 : Int) (lastI (x :: xs) - ((x :: xs).length : Int) + 1) = _
    omega
end GL
namespace GL
open PySem PySem.Spec PyProof.Rows L2
def WRow.isSet : WRow → Bool
  | .set _ _ => true
  | _ => false
def WRow.isAdd : WRow → Bool
  | .add _ _ => true
  | _ => false
def WRow.isJump : WRow → Bool
  | .jump _ _ => true
  | _ => false
def WRow.isSay : WRow → Bool
  | .say _ => true
  | _ => false
def WRow.isTake : WRow → Bool
  | .take _ => true
  | _ => false
def WRow.isFin : WRow → Bool
  | .fin => true
  | _ => false
abbrev Prog := T3 Int Int (Tp WRow)
abbrev Stand := Int × Tp Int
abbrev TickR := T5 Stand Str (Option Int) (Tp Int) (Tp Int)
def RowV (n w many : Int) : WRow → Prop
  | .set p v => (0 ≤ p ∧ p < n) ∧ 0 ≤ v ∧ v < w
  | .add p q => (0 ≤ p ∧ p < n) ∧ 0 ≤ q ∧ q < n
  | .jump p r => (0 ≤ p ∧ p < n) ∧ 0 ≤ r ∧ r < many
  | .say p => 0 ≤ p ∧ p < n
  | .take p => 0 ≤ p ∧ p < n
  | .fin => True
structure ProgOk (g : Prog) : Prop where
  n0 : 1 ≤ g.a
  n1 : g.a ≤ 12
  w0 : 2 ≤ g.b
  w1 : g.b ≤ 100
  m0 : 1 ≤ g.c.l.length
  m1 : g.c.l.length ≤ 20
  rows : ∀ r ∈ g.c.l, RowV g.a g.b g.c.l.length r
structure StandOk (g : Prog) (s : Stand) : Prop where
  a0 : 0 ≤ s.1
  a1 : s.1 ≤ g.c.l.length
  len : (s.2.l.length : Int) = g.a
  nums : ∀ x ∈ s.2.l, 0 ≤ x ∧ x < g.b
def rowAtM (g : Prog) (s : Stand) : Option WRow := if (decide (s.1 = (g.c.l.length : Int)) || decide (ix g.c.l s.1 = WRow.fin)) = true then none else some (ix g.c.l s.1)
def readsM : WRow → Tp Int
  | .add p q => ⟨usrt [p, q]⟩
  | .jump p _ => ⟨[p]⟩
  | .say p => ⟨[p]⟩
  | _ => ⟨[]⟩
def writesM : WRow → Tp Int
  | .set p _ => ⟨[p]⟩
  | .add p _ => ⟨[p]⟩
  | .take p => ⟨[p]⟩
  | _ => ⟨[]⟩
def withM (sheets : Tp Int) (sheet number : Int) : Tp Int := ⟨cutL sheets.l none (some sheet) ++ [number] ++ cutL sheets.l (some (sheet + 1)) none⟩
def dSh (w : Int) (sheets : Tp Int) (letters : List Int) : WRow → Tp Int
  | .set p v => withM sheets p v
  | .add p q => withM sheets p ((ix sheets.l p + ix sheets.l q) % w)
  | .take p => withM sheets p (ix letters 0)
  | _ => sheets
def dWo : WRow → Str
  | .say _ => Str.ofString "said"
  | .take _ => Str.ofString "took"
  | _ => Str.ofString "did"
def dNu (sheets : Tp Int) (letters : List Int) : WRow → Option Int
  | .say p => some (ix sheets.l p)
  | .take _ => some (ix letters 0)
  | _ => none
def dGo (at_ : Int) (sheets : Tp Int) : WRow → Int
  | .jump p r => if decide (ix sheets.l p = 0) = true then r else at_ + 1
  | _ => at_ + 1
def doneM (g : Prog) (s : Stand) (r : WRow) (letters : List Int) : TickR := ⟨(dGo s.1 s.2 r, dSh g.b s.2 letters r), dWo r, dNu s.2 letters r, readsM r, writesM r⟩
@[irreducible] def tickM (g : Prog) (s : Stand) (letters : List Int) : TickR := match rowAtM g s with
  | none => ⟨s, Str.ofString "ended", none, ⟨[]⟩, ⟨[]⟩⟩
  | some r => if (r.isTake && decide (letters = [])) = true then ⟨s, Str.ofString "waits", none, ⟨[]⟩, ⟨[]⟩⟩ else doneM g s r letters
theorem with_set {sheets : Tp Int} {p v : Int} (h : 0 ≤ p ∧ p < sheets.l.length) : withM sheets p v = ⟨sheets.l.set p.toNat v⟩ := by
  obtain ⟨l⟩ := sheets
  unfold withM
  congr 1
  dsimp only at h ⊢
  have e : p = ((p.toNat : Nat) : Int) := by omega
  have e1 : p + 1 = ((p.toNat + 1 : Nat) : Int) := by omega
  unfold cutL
  rw [e1, e, HT.sIx_none, HT.sIx_none, HT.sIx_nat, HT.sIx_nat, Nat.min_eq_left (by omega), Nat.min_eq_left (by omega), List.drop_zero, Nat.sub_zero, Int.toNat_natCast,
    List.take_of_length_le (l := l.drop (p.toNat + 1)) (by rw [List.length_drop]; omega), List.set_eq_take_append_cons_drop, if_pos (by omega), List.append_assoc]
  rfl
@[irreducible] def rowM (z : Pen) (n w many : Int) (takes : Bool) : WRow × Pen :=
  let way := penTake z 14
  let p := penTake way.2 n
  if decide (way.1 < 3) = true then (.set p.1 (penTake p.2 w).1, (penTake p.2 w).2)
  else if decide (way.1 < 7) = true then (.add p.1 (penTake p.2 n).1, (penTake p.2 n).2)
  else if decide (way.1 < 9) = true then (.jump p.1 (penTake p.2 many).1, (penTake p.2 many).2)
  else if decide (way.1 < 11) = true then (.say p.1, p.2)
  else if (decide (way.1 < 13) && takes) = true then (.take p.1, p.2)
  else if decide (way.1 < 13) = true then (.add p.1 p.1, p.2)
  else (ix [.fin, .jump p.1 (penTake p.2 many).1, .say p.1] (penTake (penTake p.2 many).2 3).1, (penTake (penTake p.2 many).2 3).2)
def RowT (takes : Bool) (r : WRow) : Prop := r.isTake = true → takes = true
def shE (w : Int) (st : Pen) (_ : Int) : Int := (penTake (penTake st 3).2 (ix [w, 1] (if decide ((penTake st 3).1 = 0) = true then 1 else 0))).1
def shStep (w : Int) (st : Pen) (_ : Int) : Pen := (penTake (penTake st 3).2 (ix [w, 1] (if decide ((penTake st 3).1 = 0) = true then 1 else 0))).2
@[irreducible] def sheetsM (z : Pen) (g : Prog) : Tp Int × Pen := (⟨(mapX (shE g.b) (shStep g.b) (rng 0 g.a) z).1⟩, (mapX (shE g.b) (shStep g.b) (rng 0 g.a) z).2)
theorem tick_row {g : Prog} {s : Stand} {r : WRow} (hg : ProgOk g) (hs : StandOk g s) (h : rowAtM g s = some r) : s.1 < g.c.l.length ∧ r = ix g.c.l s.1 ∧ r ≠ .fin ∧ RowV g.a g.b g.c.l.length r := by
  unfold rowAtM at h
  split at h
  · cases h
  · rename_i hc
    have e : ix g.c.l s.1 = r := Option.some.inj h
    simp at hc
    have h1 := hs.a0
    have h2 := hs.a1
    have hlt : s.1 < g.c.l.length := by omega
    refine ⟨hlt, e.symm, by rw [← e]; exact hc.2, ?_⟩
    rw [← e]
    exact hg.rows _ (ix_mem h1 hlt)
theorem rv2 {n w m : Int} {r : WRow} (h : RowV n w m r) (hn : r.isAdd = true) : 0 ≤ r.a2 ∧ r.a2 < n := by
  cases r <;> first | exact h.2 | exact absurd hn Bool.false_ne_true
section
variable {r : WRow} {w : Int} {sheets : Tp Int} {letters : List Int}
end
end GL
namespace L2
open PySem PySem.Spec PyProof.Rows
section
variable {X : Cx}
def gFld (K : PySem.W.Frag) (to : TE) (f : Str) : TG := fun v σ H Q => to σ H fun x H1 => ∃ a C dx fs, x = .ref a ∧ H1 a = some (.ins C dx fs) ∧ Cls K C ∧ NoAttr K C f ∧ fs.length < 1000 ∧ Q σ (upd H1 a (.ins C dx (putF f v fs)))
end
end L2
namespace GL
open PySem PySem.Spec PyProof.Rows L2
def fIx (f : Str) : List Str → Nat
  | [] => 0
  | k :: ks => if k = f then 0 else fIx f ks + 1
theorem look_zip {f : Str} : ∀ {ks : List Str} {vs : List V} {n : Nat}, fIx f ks = n → n < ks.length → (ks.zip vs).lookup f = vs[n]?
  | [], _, _, _, h => absurd h (Nat.not_lt_zero _)
  | _ :: _, [], _, _, _ => rfl
  | k :: ks, v :: vs, n, e, h => by
    unfold fIx at e
    rw [List.zip_cons_cons]
    by_cases c : k = f
    · rw [if_pos c] at e
      subst e c
      simp [List.lookup]
    · rw [if_neg c] at e
      subst e
      have hb : (f == k) = false := beq_eq_false_iff_ne.mpr fun z => c z.symm
      simp only [List.lookup, hb]
      rw [look_zip (ks := ks) (vs := vs) rfl (by simpa using h)]
      rfl
theorem put_zip {f : Str} {y : V} : ∀ {ks : List Str} {vs : List V} {n : Nat}, fIx f ks = n → n < ks.length → ks.length = vs.length → putF f y (ks.zip vs) = ks.zip (vs.set n y)
  | [], _, _, _, h, _ => absurd h (Nat.not_lt_zero _)
  | _ :: _, [], _, _, _, h => by cases h
  | k :: ks, v :: vs, n, e, h, hl => by
    unfold fIx at e
    rw [List.zip_cons_cons]
    unfold putF
    by_cases c : k = f
    · rw [if_pos c] at e ⊢
      subst e
      rfl
    · rw [if_neg c] at e ⊢
      subst e
      rw [put_zip (ks := ks) (vs := vs) rfl (by simpa using h) (by simpa using hl)]
      rfl
def oV : Option Int → V
  | none => .non
  | some x => .int x
structure Car (C : Addr) where
  a : Addr
  w : Addr
  s : Addr
  f : Addr
  b : Addr
  g : Prog
  st : Stand
  houses : Int
  place : Int
  wait : List Int
  said : List Int
  done : Int
  goal : Option Int
  still : Bool
  fresh : Dct Bool
  made : Int
  absent : Dct Bool
def carK : List Str := ["program", "stand", "houses", "place", "waiting", "spoken", "done", "goal", "is_still", "fresh", "made", "absent"]
def carV {C : Addr} (z : Car C) (pv sv : V) : List V := [pv, sv, .int z.houses, .int z.place, .ref z.w, .ref z.s, .int z.done, oV z.goal, .bl z.still, .ref z.f, .int z.made, .ref z.b]
structure CarAt {C : Addr} (K : Fg) (S H : Hp) (z : Car C) (dx : Addr) (pv sv : V) (kf kb : List (Key × V)) : Prop where
  cl : Cls K C
  na : ∀ k ∈ carK, NoAttr K C k
  ob : H z.a = some (.ins C dx (carK.zip (carV z pv sv)))
  rg : Py.rep K S pv z.g
  rs : Py.rep K S sv z.st
  hw : H z.w = some (.lst (z.wait.map V.int))
  hs : H z.s = some (.lst (z.said.map V.int))
  hf : H z.f = some (.dK kf)
  rf : RepD K S kf z.fresh.l
  hb : H z.b = some (.dK kb)
  rb : RepD K S kb z.absent.l
  d1 : z.w ≠ z.s
  d2 : z.f ≠ z.b
def Car.fp {C : Addr} (z : Car C) : List Addr := [z.a, z.w, z.s, z.f, z.b]
section
variable {C : Addr} {K : Fg} {S S' H H' : Hp} {z z' : Car C} {dx : Addr} {pv sv : V} {kf kb : List (Key × V)}
theorem CarAt.mono (c : CarAt K S H z dx pv sv kf kb) (e : Same S S') (h : ∀ p ∈ z.fp, H' p = H p) : CarAt K S' H' z dx pv sv kf kb :=
  ⟨c.cl, c.na, by rw [h _ (by simp [Car.fp])]; exact c.ob, Py.mono e c.rg, Py.mono e c.rs, by rw [h _ (by simp [Car.fp])]; exact c.hw, by rw [h _ (by simp [Car.fp])]; exact c.hs, by rw [h _ (by simp [Car.fp])]; exact c.hf, c.rf.mono e, by rw [h _ (by simp [Car.fp])]; exact c.hb, c.rb.mono e, c.d1, c.d2⟩
instance : Own (Car C) := ⟨fun K S H v ps z => v = .ref z.a ∧ ps = z.fp ∧ ∃ dx pv sv kf kb, CarAt K S H z dx pv sv kf kb, fun {K S S' H H' v ps x} e a ⟨h1, h2, dx, pv, sv, kf, kb, c⟩ => ⟨h1, h2, dx, pv, sv, kf, kb, c.mono e (by rw [← h2]; exact a)⟩⟩
instance : Anch (Car C) := ⟨fun z => (.ref z.a, z.fp), fun ⟨h1, h2, _⟩ => by rw [h1, h2]⟩
theorem CarAt.ne_w (c : CarAt K S H z dx pv sv kf kb) : z.w ≠ z.a := fun e => by have h := c.hw; rw [e, c.ob] at h; cases h
theorem CarAt.ne_s (c : CarAt K S H z dx pv sv kf kb) : z.s ≠ z.a := fun e => by have h := c.hs; rw [e, c.ob] at h; cases h
theorem CarAt.ne_f (c : CarAt K S H z dx pv sv kf kb) : z.f ≠ z.a := fun e => by have h := c.hf; rw [e, c.ob] at h; cases h
theorem CarAt.ne_b (c : CarAt K S H z dx pv sv kf kb) : z.b ≠ z.a := fun e => by have h := c.hb; rw [e, c.ob] at h; cases h
theorem CarAt.set {pv' sv' : V} {f : Str} {y : V} {n : Nat} (c : CarAt K S H z dx pv sv kf kb) (hn : fIx f carK = n) (hl : n < 12) (e : (carV z pv sv).set n y = carV z' pv' sv') (ha : z'.a = z.a) (h1 : z'.w = z.w) (h2 : z'.s = z.s) (h3 : z'.f = z.f) (h4 : z'.b = z.b)
    (w1 : z'.wait = z.wait) (w2 : z'.said = z.said) (w3 : z'.fresh = z.fresh) (w4 : z'.absent = z.absent) (rg : Py.rep K S pv' z'.g) (rs : Py.rep K S sv' z'.st) : CarAt K S (upd H z.a (.ins C dx (putF f y (carK.zip (carV z pv sv))))) z' dx pv' sv' kf kb := by
  refine ⟨c.cl, c.na, ?_, rg, rs, ?_, ?_, ?_, by rw [w3]; exact c.rf, ?_, by rw [w4]; exact c.rb, by rw [h1, h2]; exact c.d1, by rw [h3, h4]; exact c.d2⟩
  · rw [ha, upd_same, put_zip hn hl rfl, e]
  · rw [h1, w1, upd_ne c.ne_w]; exact c.hw
  · rw [h2, w2, upd_ne c.ne_s]; exact c.hs
  · rw [h3, upd_ne c.ne_f]; exact c.hf
  · rw [h4, upd_ne c.ne_b]; exact c.hb
end
section
variable {C : Addr} {K : Fg} {B S0 S1 S S' D : Hp} {σ : L2.St} {H H' : Hp} {F : Nat → List Addr} {G G' G1 G2 G3 G4 G5 : List Sl} {ta tb tc td te : TE} {i j l : Nat} {t u : TS} {E : Ends} {z : Car C}
theorem car_at (k : Kn K B S0 S σ H F G) (hi : G[i]? = some (.ow z)) : σ[i]? = some (some (.ref z.a)) ∧ F i = z.fp ∧ ∃ dx pv sv kf kb, CarAt K S H z dx pv sv kf kb := by
  obtain ⟨v, h1, h2, h3, h4⟩ := k.ow hi
  exact ⟨by rw [h1, h2], h3, h4⟩
end
end GL
namespace GL
open PySem PySem.Spec PyProof.Rows L2
inductive XC
  | tooMany | noHouse | noLetter | noStep | noRow | noText | base
  deriving DecidableEq
def xY (a0 a1 a2 a3 a4 a5 a6 : Addr) : XC → Addr
  | .tooMany => a0
  | .noHouse => a1
  | .noLetter => a2
  | .noStep => a3
  | .noRow => a4
  | .noText => a5
  | .base => a6
structure XCls (K : Fg) (mg : Str → Option Value) (nm : Str) (C : Addr) : Prop where
  g : mg nm = some (.ref C)
  x : PySem.W.excIn K C [.type "ValueError", .type "Exception", .type "BaseException", .type "object"] "ValueError.__new__" = true
  kp : PySem.W.keepIn K (.ref C) = true
  ty : PySem.W.typeIn K (.ref C) = some (.type "type")
  hg : PySem.W.findIn K (.ref C) "__getattribute__" = some (some (.builtin "BaseException.__getattribute__"))
  hk : PySem.W.findIn K (.ref C) "__getattr__" = some none
  hs : PySem.W.subIn K (.ref C) (.type "BaseException") = some true
  hd : PySem.W.hasDictIn K C = true
  ha : PySem.W.findIn K (.ref C) "__class__" = some (some (.builtin "object.__class__"))
  hn : PySem.W.specialIn K (.builtin "object.__class__") "__get__" = some (some (.builtin "getset_descriptor.__get__"))
  ht : PySem.W.takesIn K (.builtin "object.__class__") = some true
  hm : PySem.W.mroIn K C (.type "object") = some true
structure XTst (K : Fg) (mg : Str → Option Value) (nm : Str) (C : Addr) : Prop where
  g : mg nm = some (.ref C)
  ty : PySem.W.typeIn K (.ref C) = some (.type "type")
  hs : PySem.W.subIn K (.ref C) (.type "BaseException") = some true
  hd : PySem.W.hasDictIn K C = true
  self : PySem.W.subIn K (.ref C) (.ref C) = some true
theorem XCls.c {K : Fg} {mg : Str → Option Value} {nm : Str} {C : Addr} (t : XCls K mg nm C) : ExcC K C := ⟨t.hg, t.hk, t.hs, t.hd, t.ha, t.hn, t.ht, t.hm⟩
theorem XTst.names {X : Cx} {nm : Str} {C : Addr} (t : XTst X.K X.mg nm C) (hg : Gl X nm) (hd : (nm == ("__debug__" : Str)) = false := by decide) : Names X nm (.ref C) := ⟨hg, hd, .inl t.g⟩
structure Exc (Y : XC → Addr) where
  x : XC
section
variable {Y : XC → Addr}
instance : Py (Exc Y) := ⟨fun K S v e => ∃ p, v = .ref p ∧ S p = some (excH (.ref (Y e.x)) none p), fun s ⟨p, h1, h2⟩ => ⟨p, h1, s _ _ h2⟩⟩
end
def rIsX (K : Fg) : List V → Hp → VK → Prop := fun xs H Q => ∃ (a D : Addr) (c : V) (cv : Value) (b : Bool), xs = [.ref a, c] ∧ ExcC K D ∧ H a = some (excH (.ref D) none a) ∧ (∀ u, RelV c u → u = cv) ∧ PySem.W.kitOne K (.ref D) cv = some b ∧ Q (.bl b) H
def rIsXs (K : Fg) : List V → Hp → VK → Prop := fun xs H Q => ∃ (a D tp : Addr) (cs : List Addr) (b : Bool), xs = [.ref a, .ref tp] ∧ ExcC K D ∧ H a = some (excH (.ref D) none a) ∧ H tp = some (.tup (cs.map V.ref)) ∧ PySem.W.kitAny K (.ref D) (cs.map Value.ref) = some b ∧ Q (.bl b) H
section
variable {K : Fg} {B S0 S1 S S' : Hp} {σ : L2.St} {H H' : Hp} {F : Nat → List Addr} {G G' G1 G2 : List Sl} {ta te : TE} {t : TA} {u : TS} {D : Ends} {i j : Nat} {Y : XC → Addr} {α β : Type} {mg : Str → Option Value} {nm : Str}
def spX [PyA α] [Py β] (K : Fg) (Y : XC → Addr) (f : α → XC ⊕ β) (pre : α → Prop) : Sp := fun vs H Q E => ∃ (S : Hp) (a : α), Same S H ∧ PyA.rep K S vs a ∧ pre a ∧
  (∀ y, f a = .inr y → ∀ v S' H', Grow S H S' H' → Py.rep K S' v y → Q v H') ∧ ∀ e, f a = .inl e → ∀ S' H', Grow S H S' H' → E (.ref (Y e)) none H'
variable {W : WX}
theorem q_setX [PyA α] [Py β] {f : α → XC ⊕ β} {pre : α → Prop} {a : α} (i : Nat) (ha : EvA K t G a G1) (hp : pre a) (hi : G1[i]?.isSome = true) (ok : ∀ y, f a = .inr y → At K B S0 (u D) (G1.set i (.im y))) (er : ∀ e, f a = .inl e → At K B S0 (W (.ref (Y e)) none) G1) :
    At K B S0 (tSeq (tAsg (tCallS (spX K Y f pre) (WE W) t) (gName i)) u D) G := fun S σ H F kn =>
  ha B S0 S σ H F kn _ fun vs S1 H1 e1 k1 r1 => ⟨S1, a, k1.sub, r1, hp, fun y ey v S2 H2 g r2 => ok y ey S2 _ H2 _ ((k1.grow g).set r2 hi), fun e ee S2 H2 g => er e ee S2 σ H2 F (k1.grow g)⟩
def tRaiseX (C : Addr) (W : WX) : TS := fun _ σ H => W (.ref C) none σ H
theorem q_raise {C : Addr} (h : At K B S0 (W (.ref C) none) G) : At K B S0 (tSeq (tRaiseX C W) u D) G := h
end
structure CalX (P : Program) (w : World) (K : Fg) (mg : Str → Option Value) (base : Heap) (k : Nat) (x : Str) (ps : List Str) (sp : Sp) : Prop where
  ex : ∃ (f : Addr) (fd : FuncData), mg x = some (.ref f) ∧ FnOk P w K mg base (L2.CX P w) k f fd ps sp ∧ PySem.W.keepIn K (.ref f) = true ∧ Binds K fd ps []
theorem pe_calX {X : Cx} {j k : Nat} {x : Str} {ps : List Str} {sp : Sp} {e : Expr} {es : List Expr} {t : TA} {p pos : Pos} {W : WX} (c : CalX X.prog X.w X.K X.mg X.base k x ps sp) (tk : Takes X W) (hr : Room j X.A) (hk : k ≤ j) (hg : Gl X x) (ha : PA X (e :: es) t)
    (hd : (x == ("__debug__" : Str)) = false := by decide) (hs : starEach (e :: es) X.env = (false, eval e X.env) :: starEach es X.env := by rfl) (hpl : (backTo pos (starEach es X.env)).any (·.1) = false := by rfl) :
    PE X (.Call (.Name x p) (e :: es) [] pos) (tCallS sp (WE W) t) := by
  obtain ⟨f, fd, a, b, c, d⟩ := c.ex
  exact pe_callS b (hr.mono hk) hg a c d (fun σ => passAt tk σ) ha hd hs hpl
theorem ps_raiseX {X : Cx} {W : WX} {nm m : Str} {j : Nat} {p p2 pos pos2 : Pos} {C : Addr} (x : XCls X.K X.mg nm C) (hc : X.calm = true) (tk : Takes X W) (hg : Gl X nm) (hdb : (nm == ("__debug__" : Str)) = false := by decide) :
    PS X (.Raise (some (.Call (.Name nm p) [.Constant (.str m) j p2] [] pos)) none pos2) (tRaiseX C W) := ps_raise hc tk (pmk_own PySem.F.excBase_ValueError x.x x.g x.kp (raises_own x.hs x.ty) hg hdb)
section
variable {P : Program} {w : World} {K : Fg} {mg : Str → Option Value} {base : Heap} {α β : Type} [Sls α] [Py β] {Y : XC → Addr}
theorem def_spX {x : Str} {st : Stmt} {N ps : List Str} {k : Nat} {f : α → XC ⊕ β} {pre : α → Prop} (D : Def K mg x st ps) (S : FnScope N ps (defScope st)) (hn : PyA.n α = ps.length)
    (h : ∀ (fa : Addr) (cdv : Value) (A : Around) (outer : List Env) (s : Shared) (H : Hp) (E : XK), Room k (A.deeper (envOfC x (defScope st) s.heap.objs.size fa cdv)) →
      ∃ t, PSs (cxOf (L2.CX P w) P w K mg base N x (defScope st) fa cdv A outer s H E) (defBody st) t ∧
        ∀ (a : α), pre a → ∀ (B S0 : Hp) (Q : VK), (∀ G' y, f a = .inr y → RT K B S0 Q y G') → (∀ G' e, f a = .inl e → At K B S0 (fun _ H' => E (.ref (Y e)) none H') G') → At K B S0 (t { nx := fun _ H' => Q .non H', rt := Q }) (Sls.sls a ++ List.replicate (N.length - PyA.n α) .no)) :
    CalX P w K mg base (k + 1) x ps (spX K Y f pre) := by
  obtain ⟨fa, fd, m, F, b⟩ := D.ex
  refine ⟨fa, fd, m, F.okX S (fun vs H Q E ⟨S, a, _, r, _⟩ => (PyA.len r).trans hn) fun cdv A outer s H vs Q E hr ⟨S', a, e, r, hp, q, qe⟩ => ?_, F.kp, b⟩
  obtain ⟨t, h1, h2⟩ := h fa cdv A outer s H E hr
  exact ⟨t, h1, h2 a hp H S' Q (fun G' y ey S1 σ1 H1 F1 v k1 r1 => q y ey v S1 H1 ⟨k1.s0, k1.sub, k1.keep, k1.clean⟩ r1) (fun G' x ex S1 σ1 H1 F1 k1 => qe x ex S1 H1 ⟨k1.s0, k1.sub, k1.keep, k1.clean⟩) S' _ H _ (start_kn e r)⟩
end
end GL
namespace GL
open PySem PySem.Spec PyProof.Rows L2
structure Lnt (α : Type) where
  B : Hp
  S1 : Hp
  SL : Hp
  x : List α
instance {α : Type} [Py α] : Py (Lnt α) := ⟨fun K S v y => ∃ q vs, v = .ref q ∧ y.SL = upd y.S1 q (.lst vs) ∧ y.S1 q = none ∧ y.B q = none ∧ RepL K y.S1 vs y.x ∧ Same y.SL S, fun e ⟨q, vs, h1, h2, h3, h4, h5, h6⟩ => ⟨q, vs, h1, h2, h3, h4, h5, h6.trans e⟩⟩
section
variable {K : Fg} {B S0 S1 S S' SL D : Hp} {σ : L2.St} {H H' : Hp} {F : Nat → List Addr} {G G' G1 G2 G3 : List Sl} {ta tb tc te : TE} {i j : Nat} {t u : TS} {E : Ends}
inductive ThX (S : Hp) : List Sl → List Sl → Prop
  | n : ThX S [] []
  | k {α : Type} [Py α] {x : α} {S' : Hp} {G G' : List Sl} (h : Same S' S) : ThX S G G' → ThX S (.im (At1.mk S' x) :: G) (.im (At1.mk S' x) :: G')
  | l {α : Type} [Py α] {x : List α} {B S' : Hp} {G G' : List Sl} : ThX S G G' → ThX S (.im (Lnt.mk B S' S x) :: G) (.im (Lnt.mk B S' S x) :: G')
  | o {α : Type} [Own α] [OwnI α] {x : α} {G G' : List Sl} : ThX S G G' → ThX S (.ow x :: G) (.ow x :: G')
  | d {s : Sl} {G G' : List Sl} : ThX S G G' → ThX S (.no :: G) (s :: G')
theorem ThX.len {G G' : List Sl} (h : ThX S G G') : G.length = G'.length := by
  induction h with
  | n => rfl
  | k _ _ ih => rw [List.length_cons, List.length_cons, ih]
  | l _ ih => rw [List.length_cons, List.length_cons, ih]
  | o _ ih => rw [List.length_cons, List.length_cons, ih]
  | d _ ih => rw [List.length_cons, List.length_cons, ih]
theorem ThX.get {G G' : List Sl} (t : ThX S G G') : ∀ (i : Nat) (s : Sl), G[i]? = some s → ∃ s', G'[i]? = some s' ∧ ∀ (K : Fg) (S2 H H' : Hp) (sv : Option (Option V)) (ps : List Addr), (∀ p ∈ ps, H' p = H p) → SlOk K S2 H sv ps s' → SlOk K S H' sv ps s := by
  induction t with
  | n => intro i s e; simp at e
  | k h t ih =>
    intro i s e
    cases i with
    | zero =>
      simp only [List.getElem?_cons_zero, Option.some.injEq] at e
      subst e
      exact ⟨_, rfl, fun K S2 H H' sv ps hH ⟨v, h1, h2, h3⟩ => ⟨v, h1, h2, h⟩⟩
    | succ i => simpa using ih i s (by simpa using e)
  | l t ih =>
    intro i s e
    cases i with
    | zero =>
      simp only [List.getElem?_cons_zero, Option.some.injEq] at e
      subst e
      exact ⟨_, rfl, fun K S2 H H' sv ps hH ⟨v, h1, q, vs, a1, a2, a3, a4, a5, a6⟩ => ⟨v, h1, q, vs, a1, a2, a3, a4, a5, Same.refl _⟩⟩
    | succ i => simpa using ih i s (by simpa using e)
  | o t ih =>
    intro i s e
    cases i with
    | zero =>
      simp only [List.getElem?_cons_zero, Option.some.injEq] at e
      subst e
      exact ⟨_, rfl, fun K S2 H H' sv ps hH ⟨v, h1, h2⟩ => ⟨v, h1, Own.mono (Same.refl _) hH (OwnI.go h2)⟩⟩
    | succ i => simpa using ih i s (by simpa using e)
  | d t ih =>
    intro i s e
    cases i with
    | zero =>
      simp only [List.getElem?_cons_zero, Option.some.injEq] at e
      subst e
      exact ⟨_, rfl, fun K S2 H H' sv ps hH _ => True.intro⟩
    | succ i => simpa using ih i s (by simpa using e)
inductive Kp (S : Hp) : Sl → Sl → Prop
  | k {α : Type} [Py α] {x : α} : Kp S (.im (At1.mk S x)) (.im (At1.mk S x))
  | o {α : Type} [Own α] [OwnI α] {x : α} : Kp S (.ow x) (.ow x)
  | d {s : Sl} : Kp S .no s
theorem Kp.ok {s s' : Sl} {S2 : Hp} {sv : Option (Option V)} {ps : List Addr} (h : Kp S s s') (q : SlOk K S2 H sv ps s') : SlOk K S H sv ps s := by
  cases h with
  | k =>
    obtain ⟨v, h1, h2, h3⟩ := q
    exact ⟨v, h1, h2, Same.refl _⟩
  | o =>
    obtain ⟨v, h1, h2⟩ := q
    exact ⟨v, h1, OwnI.go h2⟩
  | d => exact True.intro
inductive Kps (S : Hp) : List Sl → List Sl → Prop
  | n : Kps S [] []
  | c {s s' : Sl} {G G' : List Sl} : Kp S s s' → Kps S G G' → Kps S (s :: G) (s' :: G')
theorem Kps.len {G G' : List Sl} (h : Kps S G G') : G.length = G'.length := by
  induction h with
  | n => rfl
  | c _ _ ih => rw [List.length_cons, List.length_cons, ih]
theorem Kps.get {G G' : List Sl} (t : Kps S G G') : ∀ (i : Nat) (s : Sl), G[i]? = some s → ∃ s', G'[i]? = some s' ∧ Kp S s s' := by
  induction t with
  | n => intro i s e; simp at e
  | c h t ih =>
    intro i s e
    cases i with
    | zero =>
      simp only [List.getElem?_cons_zero, Option.some.injEq] at e
      subst e
      exact ⟨_, rfl, h⟩
    | succ i => simpa using ih i s (by simpa using e)
inductive LeU : List Sl → List Sl → Prop
  | n : LeU [] []
  | k {s : Sl} {G G' : List Sl} : LeU G G' → LeU (s :: G) (s :: G')
  | d {s : Sl} {G G' : List Sl} : LeU G G' → LeU (.no :: G) (s :: G')
  | t {α : Type} [Py α] {x : α} {S : Hp} {G G' : List Sl} : LeU G G' → LeU (.im x :: G) (.im (At1.mk S x) :: G')
theorem LeU.len {G G' : List Sl} (h : LeU G G') : G.length = G'.length := by
  induction h with
  | n => rfl
  | k _ ih => rw [List.length_cons, List.length_cons, ih]
  | d _ ih => rw [List.length_cons, List.length_cons, ih]
  | t _ ih => rw [List.length_cons, List.length_cons, ih]
theorem LeU.get {G G' : List Sl} (t : LeU G G') : ∀ (i : Nat) (s : Sl), G[i]? = some s → ∃ s', G'[i]? = some s' ∧ ∀ (K : Fg) (S H : Hp) (sv : Option (Option V)) (ps : List Addr), SlOk K S H sv ps s' → SlOk K S H sv ps s := by
  induction t with
  | n => intro i s e; simp at e
  | k t ih =>
    intro i s e
    cases i with
    | zero => exact ⟨s, e, fun _ _ _ _ _ h => h⟩
    | succ i => simpa using ih i s (by simpa using e)
  | d t ih =>
    intro i s e
    cases i with
    | zero =>
      simp only [List.getElem?_cons_zero, Option.some.injEq] at e
      subst e
      exact ⟨_, rfl, fun _ _ _ _ _ _ => True.intro⟩
    | succ i => simpa using ih i s (by simpa using e)
  | t t ih =>
    intro i s e
    cases i with
    | zero =>
      simp only [List.getElem?_cons_zero, Option.some.injEq] at e
      subst e
      exact ⟨_, rfl, fun _ _ _ _ _ ⟨v, h1, h2, h3⟩ => ⟨v, h1, Py.mono h3 h2⟩⟩
    | succ i => simpa using ih i s (by simpa using e)
end
end GL
namespace L2
open PySem PySem.Spec PyProof.Rows
section
variable {X : Cx}
def rNeE : R2 := fun x y H Q => ∃ a b ks, x = .ref a ∧ y = .ref b ∧ H a = some (.dK ks) ∧ H b = some (.dK []) ∧ Q (.bl (!ks.isEmpty)) H
end
end L2
namespace GL
open PySem PySem.Spec PyProof.Rows L2
theorem fld_mem {f : Str} : ∀ ks : List Str, fIx f ks < ks.length → f ∈ ks := fun ks => by
  induction ks with
  | nil => intro h; exact absurd h (Nat.not_lt_zero _)
  | cons k ks ih =>
    intro h
    unfold fIx at h
    by_cases c : k = f
    · rw [c]; exact List.mem_cons_self
    · rw [if_neg c] at h
      exact List.mem_cons_of_mem _ (ih (by simpa using h))
section
variable {C : Addr} {K : Fg} {S S' H H' : Hp} {z z' : Car C} {dx : Addr} {pv sv : V} {kf kb : List (Key × V)}
theorem CarAt.some (c : CarAt K S H z dx pv sv kf kb) {q : Addr} (h : q ∈ z.fp) : ∃ o, H q = some o := by
  simp only [Car.fp, List.mem_cons, List.mem_nil_iff, or_false] at h
  rcases h with e | e | e | e | e <;> rw [e]
  · exact ⟨_, c.ob⟩
  · exact ⟨_, c.hw⟩
  · exact ⟨_, c.hs⟩
  · exact ⟨_, c.hf⟩
  · exact ⟨_, c.hb⟩
end
section
variable {C : Addr} {K : Fg} {B S0 S1 S S' D : Hp} {σ : L2.St} {H H' : Hp} {F : Nat → List Addr} {G G' G1 G2 G3 G4 G5 : List Sl} {ta tb tc td te : TE} {i j l : Nat} {t u : TS} {E : Ends} {z z' : Car C} {dx : Addr} {pv sv : V} {kf kb : List (Key × V)}
theorem fld_ref {f : Str} (n : Nat) (hn : fIx f carK = n) (hl : n < 12) (k : Kn K B S0 S σ H F G) (hi : G[i]? = some (.ow z)) {p : Addr} {Q : VK} (hv : ∀ pv sv, (carV z pv sv)[n]? = some (V.ref p)) (q : Q (.ref p) H) : tFld K (tVar i) f σ H Q := by
  obtain ⟨h1, h2, dx, pv, sv, kf, kb, c⟩ := car_at k hi
  exact ⟨.ref z.a, h1, z.a, C, dx, _, _, rfl, c.ob, c.cl, c.na f (fld_mem _ (by rw [hn]; exact hl)), by rw [look_zip hn hl]; exact hv pv sv, q⟩
theorem at_b {Q : VK} (k : Kn K B S0 S σ H F G) (hi : G[i]? = some (.ow z)) (q : Q (.ref z.b) H) : tFld K (tVar i) "absent" σ H Q := fld_ref 11 (by decide +kernel) (by decide) k hi (fun _ _ => rfl) q
end
end GL
namespace GL
open PySem PySem.Spec PyProof.Rows L2
structure MDef (K : Fg) (C : Addr) (m q : Str) (st : Stmt) (ps : List Str) : Prop where
  ex : ∃ (f : Addr) (fd : FuncData), Meth K C m f ∧ Fun K m q st f fd ∧ Binds K fd ps []
structure MCal (P : Program) (w : World) (K : Fg) (mg : Str → Option Value) (base : Heap) (k : Nat) (C : Addr) (m : Str) (ps : List Str) (sp : Sp) : Prop where
  ex : ∃ (f : Addr) (fd : FuncData), Meth K C m f ∧ FnOk P w K mg base CX0 k f fd ps sp ∧ Binds K fd ps []
structure ICal (P : Program) (w : World) (K : Fg) (mg : Str → Option Value) (base : Heap) (k : Nat) (C : Addr) (x : Str) (ps : List Str) (sp : Sp) : Prop where
  ex : ∃ (f : Addr) (fd : FuncData), Mk K C f ∧ mg x = some (.ref C) ∧ FnOk P w K mg base CX0 k f fd ps sp ∧ Binds K fd ps []
def spO {ω α β : Type} [Own ω] [PyA α] [Py β] (K : Fg) (R : ω → α → β → ω → Prop) (pre : ω → α → Prop) : Sp := fun vs H Q _ => ∃ (S : Hp) (v0 : V) (ws : List V) (ps : List Addr) (z : ω) (a : α), vs = v0 :: ws ∧ Same S H ∧ Own.own K S H v0 ps z ∧
  (∀ p ∈ ps, S p = none ∧ ∃ o, H p = some o) ∧ PyA.rep K S ws a ∧ pre z a ∧ ∀ v S' H' ps' y z', R z a y z' → Same S S' → Same S' H' → (∀ p o, p ∉ ps → H p = some o → H' p = some o) → (∀ p o, p ∉ ps → H p = some o → S' p = S p) →
    (∀ p ∈ ps', S' p = none ∧ (∃ o, H' p = some o) ∧ (p ∈ ps ∨ H p = none)) → Own.own K S' H' v0 ps' z' → Py.rep K S' v y → Q v H'
section
variable {K : Fg} {B S0 S1 S S' D : Hp} {σ : L2.St} {H H' : Hp} {F : Nat → List Addr} {G G' G1 G2 : List Sl} {ta te : TE} {i j : Nat} {t : TA} {u : TS} {E : Ends} {Ex : XK}
variable {ω α β : Type} [Own ω] [PyA α] [Py β] {z z' : ω} {a : α}
theorem Kn.moved {S2 H2 : Hp} {v0 : V} {ps' : List Addr} (k1 : Kn K B S0 S1 σ H F G1) (hi1 : G1[i]? = some (.ow z)) (h1 : σ[i]? = some (some v0)) (s1 : Same S1 S2) (s2 : Same S2 H2) (hk : ∀ p o, p ∉ F i → H p = some o → H2 p = some o) (hc : ∀ p o, p ∉ F i → H p = some o → S2 p = S1 p)
    (hl : ∀ p ∈ ps', S2 p = none ∧ (∃ o, H2 p = some o) ∧ (p ∈ F i ∨ H p = none)) (ho : Own.own K S2 H2 v0 ps' z') : Kn K B S0 S2 σ H2 (upF F i ps') (G1.set i (.ow z')) := by
  have hB : ∀ p ∈ ps', B p = none := fun p hp => by
    rcases (hl p hp).2.2 with m | m
    · exact (k1.off i p m).2.1
    · exact (k1.free m).2.1
  have hN : ∀ p ∈ ps', ∀ j, j ≠ i → p ∉ F j := fun p hp j hj m => by
    rcases (hl p hp).2.2 with m' | m'
    · exact hj (k1.dj j i p m m')
    · exact (k1.free m').2.2 j m
  refine ⟨k1.s0.trans s1, s2, fun p o e => ?_, fun p o e => (hc p o (fun m => by rw [(k1.off i p m).2.1] at e; cases e) (k1.keep p o e)).trans (k1.clean p o e), fun j p hp => ?_, fun a b p ha hb => ?_, by rw [List.length_set]; exact k1.len, fun j s e => ?_⟩
  · exact hk p o (fun m => by rw [(k1.off i p m).2.1] at e; cases e) (k1.keep p o e)
  · by_cases c : j = i
    · rw [c, upF_self] at hp
      exact ⟨(hl p hp).1, hB p hp, (hl p hp).2.1⟩
    · rw [upF_ne c] at hp
      obtain ⟨a1, a2, o, a3⟩ := k1.off j p hp
      exact ⟨(hc p o (fun m => c (k1.dj j i p hp m)) a3).trans a1, a2, o, hk p o (fun m => c (k1.dj j i p hp m)) a3⟩
  · by_cases ca : a = i
    · by_cases cb : b = i
      · rw [ca, cb]
      · rw [ca, upF_self] at ha
        rw [upF_ne cb] at hb
        exact absurd hb (hN p ha b cb)
    · rw [upF_ne ca] at ha
      by_cases cb : b = i
      · rw [cb, upF_self] at hb
        exact absurd ha (hN p hb a ca)
      · rw [upF_ne cb] at hb
        exact k1.dj a b p ha hb
  · rcases set_get e with ⟨rfl, rfl⟩ | ⟨ne, e⟩
    · rw [upF_self]
      exact ⟨v0, h1, ho⟩
    · rw [upF_ne ne]
      have w := k1.sl j s e
      cases s with
      | no => exact True.intro
      | im y =>
        obtain ⟨u, b1, b2⟩ := w
        exact ⟨u, b1, Py.mono s1 b2⟩
      | ow y =>
        obtain ⟨u, b1, b2⟩ := w
        refine ⟨u, b1, Own.mono s1 (fun p hp => ?_) b2⟩
        obtain ⟨_, _, o, a3⟩ := k1.off j p hp
        rw [a3]
        exact hk p o (fun m => ne (k1.dj j i p hp m)) a3
end
section
variable {C : Addr} {K : Fg} {B S0 S1 S S' D : Hp} {σ : L2.St} {H H' : Hp} {F : Nat → List Addr} {G G' G1 G2 : List Sl} {ta te : TE} {i j : Nat} {t : TA} {u : TS} {E : Ends} {Ex : XK} {m : Str}
variable {α β : Type} [PyA α] [Py β] {z z1 : Car C} {a : α} {f : Car C → α → β × Car C} {R : Car C → α → β → Car C → Prop} {pre : Car C → α → Prop}
end
section
variable {P : Program} {w : World} {K : Fg} {mg : Str → Option Value} {base : Heap} {α β : Type} [Sls α] [Py β] {C : Addr}
end
section
variable {C : Addr} {K : Fg} {B S0 S1 S S' D : Hp} {σ : L2.St} {H H' : Hp} {F : Nat → List Addr} {G G' G1 G2 : List Sl} {ta te : TE} {i j : Nat} {t : TA} {u : TS} {E : Ends} {Ex : XK} {m : Str} {z : Car C}
end
structure Tw where
  w : Str
  r : List (Option Int)
  deriving DecidableEq
instance : Py Tw := ⟨fun K S v x => ∃ p, v = .ref p ∧ SqT K S p (.str x.w :: x.r.map oV), fun e ⟨p, h1, h2⟩ => ⟨p, h1, seqT e h2⟩⟩
def oD : Option Int → PyData
  | none => .none
  | some x => .int x
theorem dp_os {K : Fg} {H : Hp} : ∀ xs : List (Option Int), DpAll K H (xs.map oV) (xs.map oD)
  | [] => .nil
  | none :: xs => .cons .non (dp_os xs)
  | some x :: xs => .cons (.int x) (dp_os xs)
theorem lay_os : ∀ xs : List (Option Int), PyData.canLayAll0 (xs.map oD) = true
  | [] => rfl
  | none :: xs => by rw [List.map_cons, PyData.canLayAll0, lay_os xs]; rfl
  | some x :: xs => by rw [List.map_cons, PyData.canLayAll0, lay_os xs]; rfl
theorem dep_os : ∀ xs : List (Option Int), PyData.depthAll (xs.map oD) ≤ 0
  | [] => by rw [List.map_nil, PyData.depthAll]; exact Nat.le_refl _
  | none :: xs => by have := dep_os xs; rw [List.map_cons, PyData.depthAll]; simp [oD, PyData.depth]; omega
  | some x :: xs => by have := dep_os xs; rw [List.map_cons, PyData.depthAll]; simp [oD, PyData.depth]; omega
theorem eq_os : ∀ xs ys : List (Option Int), (PyData.eqvAll (xs.map oD) (ys.map oD) = true) ↔ xs = ys
  | [], [] => by simp [PyData.eqvAll]
  | [], _ :: _ => by simp [PyData.eqvAll]
  | _ :: _, [] => by simp [PyData.eqvAll]
  | x :: xs, y :: ys => by
    rw [List.map_cons, List.map_cons, PyData.eqvAll, Bool.and_eq_true, eq_os xs ys, List.cons.injEq]
    refine and_congr ?_ Iff.rfl
    cases x <;> cases y <;> simp [oD, PyData.eqv]
instance (priority := 600) : Dq Tw := ⟨fun x => .tuple (.str x.w :: x.r.map oD), fun x => (PyData.str x.w).canLay0 = true, fun e ⟨p, h1, h2⟩ => by rw [h1]; exact .tup (seqT e h2) (.cons (.str _) (dp_os _)),
  fun x h => by rw [PyData.canLay0, PyData.canLayAll0, h, lay_os]; rfl, 1, fun x => by have := dep_os x.r; rw [PyData.depth, PyData.depthAll]; simp [PyData.depth]; omega, fun x y => by
    obtain ⟨w, r⟩ := x
    obtain ⟨w', r'⟩ := y
    rw [PyData.eqv, PyData.eqvAll, Bool.and_eq_true, eq_os]
    simp [PyData.eqv]⟩
section
variable {K : Fg} {G G1 G2 : List Sl} {ta tb : TE}
end
end GL
namespace GL
open PySem PySem.Spec PyProof.Rows L2
def spCI (K : Fg) (C : Addr) : Sp := fun vs H Q _ => ∃ (S : Hp) (x dx : Addr) (pv sv : V) (g : Prog) (st : Stand) (h : Int), vs = [.ref x, pv, sv, .int h] ∧ H x = some (.ins C dx []) ∧ Py.rep K S pv g ∧ Py.rep K S sv st ∧
  ∀ (w s f b : Addr) (H' : Hp), H w = none → H s = none → H f = none → H b = none → CarAt K S H' (Car.mk (C := C) x w s f b g st h 0 [] [] 0 none false Dct.emp 0 Dct.emp) dx pv sv [] [] → (∀ p o, p ≠ x → H p = some o → H' p = some o) → Q .non H'
section
variable {P : Program} {w : World} {K : Fg} {mg : Str → Option Value} {base : Heap} {C x dx : Addr} {H : Hp} {σ : L2.St} {u : TS} {D : Ends} {tv : TE} {f : Str} {ks : List Str} {vs : List V}
end
section
variable {C : Addr} {K : Fg} {B S0 S1 S S' D : Hp} {σ : L2.St} {H H' : Hp} {F : Nat → List Addr} {G G' G1 G2 : List Sl} {i : Nat} {t : TA} {u : TS} {E : Ends} {Ex : XK}
end
end GL
namespace GL
open PySem PySem.Spec PyProof.Rows L2
def spCR {α : Type} [PyA α] (K : Fg) (C : Addr) (R : α → Car C → Prop) (pre : α → Prop) : Sp := fun vs H Q _ => ∃ (S : Hp) (a : α), Same S H ∧ PyA.rep K S vs a ∧ pre a ∧
  ∀ (z : Car C) S' H', R a z → Grow S H S' H' → (∀ p ∈ z.fp, H p = none ∧ S' p = none) → Own.own K S' H' (.ref z.a) z.fp z → Q (.ref z.a) H'
section
variable {P : Program} {w : World} {K : Fg} {mg : Str → Option Value} {base : Heap} {α : Type} [Sls α] {C : Addr}
end
section
variable {C : Addr} {K : Fg} {B S0 S1 S S' D : Hp} {σ : L2.St} {H H' : Hp} {F : Nat → List Addr} {G G' G1 G2 : List Sl} {i j : Nat} {t : TA} {u : TS} {E : Ends} {Ex Ex' : XK} {m : Str}
variable {α β : Type} [PyA α] [Py β] {a : α} {R : α → Car C → Prop} {pre' : α → Prop} {f : Car C → Unit → β × Car C} {pre : Car C → Unit → Prop} {z : Car C}
end
end GL
namespace GL
open PySem PySem.Spec PyProof.Rows L2
instance : Inhabited Dat := ⟨.non⟩
namespace Dat
def isT : Dat → Bool
  | .tup _ => true
  | _ => false
def isL : Dat → Bool
  | .lst _ => true
  | _ => false
def isS : Dat → Bool
  | .str _ => true
  | _ => false
def isBl : Dat → Bool
  | .bl _ => true
  | _ => false
def isI : Dat → Bool
  | .int _ => true
  | .bl _ => true
  | _ => false
def isInt : Dat → Bool
  | .int _ => true
  | _ => false
def toI : Dat → Int
  | .int i => i
  | _ => 0
def items : Dat → List Dat
  | .tup l => l
  | .lst l => l
  | _ => []
end Dat
theorem isInt_of {d : Dat} (h1 : d.isI = true) (h2 : (!d.isBl) = true) : d.isInt = true := by
  cases d <;> first | rfl | exact absurd h1 Bool.false_ne_true | exact absurd h2 Bool.false_ne_true
theorem drep_ints {K : Fg} {S : Hp} : ∀ l : List Int, DRepL K S (l.map V.int) (l.map Dat.int)
  | [] => .nil
  | _ :: l => .cons (.int _) (drep_ints l)
section
variable {K : Fg} {G G1 : List Sl} {ta te : TE}
theorem ev_isTD {d : Dat} (ha : EvX K ta G d G1) : EvX K (tCB (rIsi K) (tCons ta (tCons (tC (.ty "tuple")) tNil))) G d.isT G1 := ev_isiD ha (by cases d <;> (first | rfl | decide +kernel))
theorem ev_isLD {d : Dat} (ha : EvX K ta G d G1) : EvX K (tCB (rIsi K) (tCons ta (tCons (tC (.ty "list")) tNil))) G d.isL G1 := ev_isiD ha (by cases d <;> (first | rfl | decide +kernel))
theorem ev_isBD {d : Dat} (ha : EvX K ta G d G1) : EvX K (tCB (rIsi K) (tCons ta (tCons (tC (.ty "bool")) tNil))) G d.isBl G1 := ev_isiD ha (by cases d <;> (first | rfl | decide +kernel))
theorem ev_isID {d : Dat} (ha : EvX K ta G d G1) : EvX K (tCB (rIsi K) (tCons ta (tCons (tC (.ty "int")) tNil))) G d.isI G1 := ev_isiD ha (by cases d <;> (first | rfl | decide +kernel))
theorem EvX.asI {d : Dat} (h : EvX K te G d G1) (hd : d.isInt = true) : EvX K te G d.toI G1 := by
  cases d with
  | int i => exact h.unI
  | _ => exact absurd hd Bool.false_ne_true
theorem EvX.asT {d : Dat} (h : EvX K te G d G1) (hd : d.isT = true) : EvX K te G (Tp.mk d.items) G1 := by
  cases d with
  | tup l => exact h.unT
  | _ => exact absurd hd Bool.false_ne_true
theorem EvX.tpD {xs : Tp Int} (h : EvX K te G xs G1) : EvX K te G (Tp.mk (xs.l.map Dat.int)) G1 := fun B S0 S σ H F k Q q => h B S0 S σ H F k Q fun v S' H' e k' r => q v S' H' e k' (by
  obtain ⟨p, vs, h1, h2, h3⟩ := r
  exact ⟨p, vs, h1, h2, (RepL.toD h3).rep⟩)
instance : ToD WRow := ⟨fun r => .tup (.str r.word :: r.nums.map .int), fun ⟨p, h1, h2⟩ => by
  rw [h1]
  exact .tup h2 (.cons (.str _) (drep_ints _))⟩
instance {α β : Type} [Py α] [Py β] [ToD α] [ToD β] : ToD (H2 α β) := ⟨fun x => .lst [ToD.dat x.a, ToD.dat x.b], fun ⟨p, a, b, h1, h2, h3, h4⟩ => by rw [h1]; exact .lst h2 (.cons (ToD.of h3) (.cons (ToD.of h4) .nil))⟩
end
def btwD (d : Dat) (lo hi : Int) : Bool := d.isInt && (decide (lo ≤ d.toI) && decide (d.toI ≤ hi))
theorem part_ret {d : Dat} {many : Int} : (d.isI && (!d.isBl && (decide (0 ≤ d.toI) && decide (d.toI < many)))) = btwD d 0 (many - 1) := by
  unfold btwD
  have : decide (d.toI < many) = decide (d.toI ≤ many - 1) := by
    apply decide_eq_decide.mpr
    omega
  rw [this]
  cases d <;> rfl
def standD (n w m : Int) (d : Dat) : Bool := d.isT && (decide (d.items.length = 2) && (btwD (ix d.items 0) 0 m && ((ix d.items 1).isT && (decide (((ix d.items 1).items.length : Int) = n) && (ix d.items 1).items.all fun x => btwD x 0 (w - 1)))))
end GL
namespace GL
open PySem PySem.Spec PyProof.Rows L2
def LetOk (g : Prog) (l : List Int) : Prop := ∀ x ∈ l, 0 ≤ x ∧ x < g.b
theorem with_ok {g : Prog} {s : Tp Int} {p v : Int} (hl : (s.l.length : Int) = g.a) (hn : ∀ x ∈ s.l, 0 ≤ x ∧ x < g.b) (hp : 0 ≤ p ∧ p < g.a) (hv : 0 ≤ v ∧ v < g.b) : ((withM s p v).l.length : Int) = g.a ∧ ∀ x ∈ (withM s p v).l, 0 ≤ x ∧ x < g.b := by
  rw [with_set (by omega)]
  refine ⟨by dsimp only; rw [List.length_set]; exact hl, fun x hx => ?_⟩
  rcases List.mem_or_eq_of_mem_set hx with h | h
  · exact hn x h
  · rw [h]; exact hv
theorem tick_cases (P : TickR → Prop) {g : Prog} {s : Stand} {letters : List Int} (h1 : rowAtM g s = none → P ⟨s, Str.ofString "ended", none, ⟨[]⟩, ⟨[]⟩⟩) (h2 : ∀ p, rowAtM g s = some (.take p) → letters = [] → P ⟨s, Str.ofString "waits", none, ⟨[]⟩, ⟨[]⟩⟩) (h3 : ∀ r, rowAtM g s = some r → (r.isTake = true → letters ≠ []) → P (doneM g s r letters)) : P (tickM g s letters) := by
  unfold tickM
  cases e : rowAtM g s with
  | none => exact h1 e
  | some r =>
    dsimp only
    split
    · rename_i hc
      obtain ⟨c1, c2⟩ := Bool.and_eq_true_iff.mp hc
      cases r <;> first | exact absurd c1 Bool.false_ne_true | exact h2 _ e (of_decide_eq_true c2)
    · rename_i hc
      exact h3 r e fun ht hl => hc (by rw [ht, hl]; rfl)
theorem tick_ok {g : Prog} {s : Stand} {letters : List Int} (hg : ProgOk g) (hs : StandOk g s) (hl : LetOk g letters) : StandOk g (tickM g s letters).a := by
  refine tick_cases (fun t => StandOk g t.a) (fun _ => hs) (fun _ _ _ => hs) fun r hr ht => ?_
  obtain ⟨h1, h2, h3, h4⟩ := tick_row hg hs hr
  have ha := hs.a0
  have hw := hg.w0
  have key : (0 ≤ dGo s.1 s.2 r ∧ dGo s.1 s.2 r ≤ g.c.l.length) ∧ ((dSh g.b s.2 letters r).l.length : Int) = g.a ∧ ∀ x ∈ (dSh g.b s.2 letters r).l, 0 ≤ x ∧ x < g.b := by
    cases r with
    | set p v => exact ⟨by dsimp only [dGo]; omega, with_ok hs.len hs.nums h4.1 h4.2⟩
    | add p q => exact ⟨by dsimp only [dGo]; omega, with_ok hs.len hs.nums h4.1 ⟨Int.emod_nonneg _ (by omega), Int.emod_lt_of_pos _ (by omega)⟩⟩
    | jump p q =>
      refine ⟨?_, hs.len, hs.nums⟩
      have := h4.2
      dsimp only [dGo]
      split <;> omega
    | say p => exact ⟨by dsimp only [dGo]; omega, hs.len, hs.nums⟩
    | take p =>
      refine ⟨by dsimp only [dGo]; omega, with_ok hs.len hs.nums h4 (hl _ (ix_mem (by decide) ?_))⟩
      have := List.length_pos_iff.mpr (ht rfl)
      omega
    | fin => exact absurd rfl h3
  exact ⟨key.1.1, key.1.2, key.2.1, key.2.2⟩
end GL
namespace GL
open PySem PySem.Spec PyProof.Rows L2
variable {C : Addr}
structure CarOk (z : Car C) : Prop where
  g : ProgOk z.g
  s : StandOk z.g z.st
  l : LetOk z.g z.wait
  wl : z.wait.length ≤ 100000
  sl : z.said.length ≤ 100000
def lksM (z : Car C) : List Int := match rowAtM z.g z.st with
  | none => []
  | some r => (readsM r).l.filter fun p => (z.absent.get? p).isSome
def wentM (z : Car C) (t : TickR) : Car C := { z with st := t.a, wait := if decide (t.b = Str.ofString "took") = true then z.wait.drop 1 else z.wait, said := if decide (t.b = Str.ofString "said") = true then z.said ++ [t.c.getD default] else z.said, fresh := t.e.l.foldl Dct.del z.fresh, absent := t.e.l.foldl Dct.del z.absent, done := z.done + 1 }
@[irreducible] def tickC (z : Car C) : Tw × Car C :=
  if z.still = true then (⟨Str.ofString "still", []⟩, z)
  else if lksM z ≠ [] then (⟨Str.ofString "lacks", [some (ix (lksM z) 0)]⟩, z)
  else (⟨(tickM z.g z.st z.wait).b, [(tickM z.g z.st z.wait).c]⟩, wentM z (tickM z.g z.st z.wait))
@[irreducible] def lfM (z : Car C) : List Int := (rng 0 z.g.a).filter fun p => !(z.fresh.get? p).isSome
@[irreducible] def copyC (z : Car C) (p : Int) : Car C := { z with fresh := z.fresh.put p true, made := z.made + 1 }
@[irreducible] def letterC (z : Car C) (v : Int) : Car C := { z with wait := z.wait ++ [v] }
@[irreducible] def stillC (z : Car C) : Car C := { z with still := true }
@[irreducible] def goesC (z : Car C) : Car C := { z with place := z.goal.getD default, goal := none, still := false }
@[irreducible] def lackC (z : Car C) (l : List Int) : Car C := { z with absent := l.foldl (fun d p => d.put p true) z.absent }
@[irreducible] def bringC (z : Car C) (p : Int) : Car C := { z with absent := z.absent.del p }
@[irreducible] def dropC (z : Car C) : Car C := { z with goal := none, still := false }
def BegR (z : Car C) (h : Int) (z' : Car C) : Prop := ∃ f', z' = { z with f := f', goal := some h, still := false, fresh := Dct.emp, made := 0 }
theorem put_len {d : Dct Bool} {k : Int} {x : Bool} : (d.put k x).l.length ≤ d.l.length + 1 := by
  unfold Dct.put
  dsimp only
  split
  · rw [List.length_map]; omega
  · rw [List.length_append]; exact Nat.le_refl _
end GL
namespace GL
open PySem PySem.Spec PyProof.Rows L2
variable {C : Addr}
def popBoth (z : Car C) (p : Int) : Car C := { z with fresh := z.fresh.del p, absent := z.absent.del p }
end GL
namespace GL
open PySem PySem.Spec PyProof.Rows L2
variable {C : Addr}
end GL
namespace GL
open PySem PySem.Spec PyProof.Rows L2
variable {C : Addr}
end GL
namespace GL
open PySem PySem.Spec PyProof.Rows L2
theorem rev_indU {α : Type} {P : List α → Prop} (h0 : P []) (hs : ∀ xs x, P xs → P (xs ++ [x])) (xs : List α) : P xs := by
  have h : ∀ ys : List α, P ys.reverse := fun ys => by
    induction ys with
    | nil => exact h0
    | cons y ys ih => rw [List.reverse_cons]; exact hs _ _ ih
  have := h xs.reverse
  rwa [List.reverse_reverse] at this
theorem ix_get {α : Type} [Inhabited α] {xs : List α} {i : Int} (h0 : 0 ≤ i) (h : i.toNat < xs.length) : ix xs i = xs[i.toNat] := by
  have e := ix_at (xs := xs) h0 (by omega)
  rw [List.getElem?_eq_getElem h] at e
  exact (Option.some.inj e).symm
abbrev Lets := List (Int × Int)
structure LetsOk (g : Prog) (l : Lets) : Prop where
  srt : (l.map (·.1)).Pairwise (· ≤ ·)
  nums : ∀ x ∈ l, 0 ≤ x.2 ∧ x.2 < g.b
  len : l.length ≤ 1000
def availM (l : Lets) (now : Int) : List Int := (l.filter (fun x => decide (x.1 ≤ now))).map (·.2)
abbrev Said := List (Int × Option Int)
abbrev Tou := List (Tp Int × Tp Int)
abbrev RunS := Int × Stand × Said × Tou
@[irreducible] def runStep (g : Prog) (l : Lets) (st : RunS) (now : Int) : RunS :=
  let t := tickM g st.2.1 ((availM l now).drop st.1.toNat)
  (st.1 + (if decide (t.b = Str.ofString "took") = true then 1 else 0), t.a, if decide (t.b = Str.ofString "said") = true then st.2.2.1 ++ [(now, t.c)] else st.2.2.1, st.2.2.2 ++ [(t.d, t.e)])
@[irreducible] def runF (g : Prog) (s : Stand) (l : Lets) (xs : List Int) : RunS := xs.foldl (runStep g l) (0, s, [], [])
@[irreducible] def runM (g : Prog) (s : Stand) (l : Lets) (many : Int) : T3 Stand Said Tou := ⟨(runF g s l (rng 0 many)).2.1, (runF g s l (rng 0 many)).2.2.1, (runF g s l (rng 0 many)).2.2.2⟩
theorem run_nil (g : Prog) (s : Stand) (l : Lets) : runF g s l [] = (0, s, [], []) := by unfold runF; rfl
theorem run_snoc (g : Prog) (s : Stand) (l : Lets) (xs : List Int) (n : Int) : runF g s l (xs ++ [n]) = runStep g l (runF g s l xs) n := by
  unfold runF; rw [List.foldl_append]; rfl
theorem avail_ok {g : Prog} {l : Lets} (h : LetsOk g l) (now : Int) (u : Nat) : LetOk g ((availM l now).drop u) ∧ ((availM l now).drop u).length ≤ 100000 := by
  refine ⟨fun x hx => ?_, ?_⟩
  · obtain ⟨y, hy, e⟩ := List.mem_map.mp (List.mem_of_mem_drop hx)
    rw [← e]
    exact h.nums y (List.mem_filter.mp hy).1
  · have := h.len
    have := List.length_filter_le (fun x : Int × Int => decide (x.1 ≤ now)) l
    rw [List.length_drop]
    unfold availM
    rw [List.length_map]
    omega
theorem runStep_stand {g : Prog} {l : Lets} {st : RunS} {now : Int} : (runStep g l st now).2.1 = (tickM g st.2.1 ((availM l now).drop st.1.toNat)).a := by unfold runStep; rfl
theorem runStep_used {g : Prog} {l : Lets} {st : RunS} {now : Int} : (runStep g l st now).1 = st.1 + (if decide ((tickM g st.2.1 ((availM l now).drop st.1.toNat)).b = Str.ofString "took") = true then 1 else 0) := by unfold runStep; rfl
theorem run_ok {g : Prog} {s : Stand} {l : Lets} (hg : ProgOk g) (hs : StandOk g s) (hl : LetsOk g l) (xs : List Int) : StandOk g (runF g s l xs).2.1 ∧ 0 ≤ (runF g s l xs).1 := by
  refine rev_indU (P := fun xs => StandOk g (runF g s l xs).2.1 ∧ 0 ≤ (runF g s l xs).1) ?_ (fun xs n ih => ?_) xs
  · rw [run_nil]; exact ⟨hs, Int.le_refl _⟩
  · rw [run_snoc, runStep_stand, runStep_used]
    refine ⟨tick_ok hg ih.1 (avail_ok hl n _).1, ?_⟩
    have := ih.2
    split <;> omega
theorem cut_drop {α : Type} {l : List α} {u : Int} (h : 0 ≤ u) : cutL l (some u) none = l.drop u.toNat := by
  have e : u = ((u.toNat : Nat) : Int) := by omega
  unfold cutL
  rw [e, HT.sIx_none, HT.sIx_nat, Int.toNat_natCast]
  by_cases hh : u.toNat ≤ l.length
  · rw [Nat.min_eq_left hh, List.take_of_length_le (by rw [List.length_drop]; omega)]
  · rw [Nat.min_eq_right (by omega), List.drop_of_length_le (l := l) (i := u.toNat) (by omega), List.drop_length]; simp
theorem run_law {g : Prog} {s : Stand} {l : Lets} {pre : List Int} {now used : Int} {stand : Stand} {said : Said} {touched : Tou} {t : TickR} (hI : (used, stand, said, touched) = runF g s l pre) (ht : t = tickM g stand ((availM l now).drop used.toNat)) :
    (used + (if decide (t.b = Str.ofString "took") = true then 1 else 0), t.a, (if decide (t.b = Str.ofString "said") = true then said ++ [(now, t.c)] else said), touched ++ [(t.d, t.e)]) = runF g s l (pre ++ [now]) := by
  rw [run_snoc, ← hI, ht]
  unfold runStep
  rfl
structure WgI (l : Lets) (used now : Int) (st : List Int × Int) : Prop where
  c0 : 0 ≤ st.2
  c1 : st.2 ≤ l.length
  u1 : used ≤ st.2
  w : st.1 = ((l.take st.2.toNat).map (·.2)).drop used.toNat
  le : ∀ x ∈ l.take st.2.toNat, x.1 ≤ now
theorem WgI.step {l : Lets} {used now : Int} {wt : List Int} {come : Int} (hu : 0 ≤ used) (h : WgI l used now (wt, come)) (hc : come < l.length) (hn : (ix l come).1 ≤ now) : WgI l used now (wt ++ [(ix l come).2], come + 1) := by
  obtain ⟨c0, c1, u1, w, le⟩ := h
  dsimp only at *
  have hlt : come.toNat < l.length := by omega
  have e : (come + 1).toNat = come.toNat + 1 := by omega
  have ei : ix l come = l[come.toNat] := ix_get c0 hlt
  have et : l.take (come.toNat + 1) = l.take come.toNat ++ [ix l come] := by rw [ei, List.take_succ_eq_append_getElem hlt]
  refine ⟨by dsimp only; omega, by dsimp only; omega, by dsimp only; omega, ?_, ?_⟩
  · dsimp only
    rw [e, et, List.map_append, List.drop_append_of_le_length (by rw [List.length_map, List.length_take]; omega), ← w]
    rfl
  · dsimp only
    rw [e, et]
    intro x hx
    rcases List.mem_append.mp hx with q | q
    · exact le x q
    · rw [List.mem_singleton.mp q]; exact hn
theorem filter_take {l : Lets} {now : Int} {k : Nat} (hs : (l.map (·.1)).Pairwise (· ≤ ·)) (h1 : ∀ x ∈ l.take k, x.1 ≤ now) (h2 : ∀ x, l[k]? = some x → now < x.1) : l.filter (fun x => decide (x.1 ≤ now)) = l.take k := by
  induction l generalizing k with
  | nil => simp
  | cons y l ih =>
    rw [List.map_cons, List.pairwise_cons] at hs
    cases k with
    | zero =>
      have h := h2 y rfl
      rw [List.take_zero, List.filter_eq_nil_iff]
      intro x hx
      rcases List.mem_cons.mp hx with e | e
      · rw [e]; simp; omega
      · have := hs.1 x.1 (List.mem_map.mpr ⟨x, e, rfl⟩)
        simp
        omega
    | succ k =>
      have h := h1 y (by simp)
      rw [List.take_succ_cons, List.filter_cons, if_pos (by simp; exact h), ih hs.2 (fun x hx => h1 x (by rw [List.take_succ_cons]; exact List.mem_cons_of_mem _ hx)) (fun x hx => h2 x (by simpa using hx))]
theorem WgI.done {l : Lets} {used now : Int} {wt : List Int} {come : Int} (hs : (l.map (·.1)).Pairwise (· ≤ ·)) (h : WgI l used now (wt, come)) (hc : (decide (come < (l.length : Int)) && decide ((ix l come).1 ≤ now)) = false) : wt = (availM l now).drop used.toNat ∧ l.take come.toNat = l.filter (fun x => decide (x.1 ≤ now)) := by
  obtain ⟨c0, c1, u1, w, le⟩ := h
  dsimp only at *
  have e := filter_take (k := come.toNat) hs le fun x hx => by
    obtain ⟨hlt, e⟩ := List.getElem?_eq_some_iff.mp hx
    have ei : ix l come = l[come.toNat] := ix_get c0 hlt
    rw [ei, e] at hc
    rcases Bool.and_eq_false_iff.mp hc with q | q
    · have := of_decide_eq_false q; omega
    · have := of_decide_eq_false q; omega
  exact ⟨by unfold availM; rw [e]; exact w, e.symm⟩
structure GonI (g : Prog) (s : Stand) (l : Lets) (pre : List Int) (st : List Int × Said × Tou × Int × Stand) : Prop where
  said : st.2.1 = (runF g s l pre).2.2.1
  fnd : st.2.2.1 = (runF g s l pre).2.2.2
  stand : st.2.2.2.2 = (runF g s l pre).2.1
  wg : ∀ now, (∀ p ∈ pre, p < now) → WgI l (runF g s l pre).1 now (st.1, st.2.2.2.1)
theorem GonI.start (g : Prog) (s : Stand) (l : Lets) : GonI g s l [] ([], [], [], 0, s) :=
  ⟨by rw [run_nil], by rw [run_nil], by rw [run_nil], fun now _ => by rw [run_nil]; exact ⟨Int.le_refl _, by dsimp only; omega, Int.le_refl _, by simp, by simp⟩⟩
theorem took_ne {g : Prog} {s : Stand} {l : List Int} (h : decide ((tickM g s l).b = Str.ofString "took") = true) : l ≠ [] := by
  revert h
  refine tick_cases (fun t => decide (t.b = Str.ofString "took") = true → l ≠ []) (fun _ h => ?_) (fun _ _ _ h => ?_) (fun r _ ht h => ?_)
  · exact absurd (of_decide_eq_true h) (show ¬ Str.ofString "ended" = Str.ofString "took" by decide +kernel)
  · exact absurd (of_decide_eq_true h) (show ¬ Str.ofString "waits" = Str.ofString "took" by decide +kernel)
  · have h' : dWo r = Str.ofString "took" := of_decide_eq_true h
    cases r with
    | take p => exact ht rfl
    | say p => exact absurd h' (show ¬ Str.ofString "said" = Str.ofString "took" by decide +kernel)
    | _ => exact absurd h' (show ¬ Str.ofString "did" = Str.ofString "took" by decide +kernel)
theorem GonI.step {g : Prog} {s : Stand} {l : Lets} {pre post : List Int} {now many : Int} {wt0 wt : List Int} {said : Said} {fnd : Tou} {come0 come : Int} {stand : Stand} {t : TickR} (hg : ProgOk g) (hs : StandOk g s) (hl : LetsOk g l) (ex : pre ++ now :: post = rng 0 many)
    (h : GonI g s l pre (wt0, said, fnd, come0, stand)) (hw : WgI l (runF g s l pre).1 now (wt, come)) (he : wt = (availM l now).drop (runF g s l pre).1.toNat) (ht : t = tickM g stand wt) :
    GonI g s l (pre ++ [now]) ((if decide (t.b = Str.ofString "took") = true then wt.drop 1 else wt), (if decide (t.b = Str.ofString "said") = true then said ++ [(now, t.c)] else said), fnd ++ [(t.d, t.e)], come, t.a) := by
  obtain ⟨h1, h2, h3, h4⟩ := h
  dsimp only at h1 h2 h3
  have hu := (run_ok hg hs hl pre).2
  have hr := run_law (s := s) (pre := pre) (now := now) (t := t) (used := (runF g s l pre).1) (stand := stand) (said := said) (touched := fnd) (by rw [h1, h2, h3]) (by rw [ht, he])
  refine ⟨by rw [← hr], by rw [← hr], by rw [← hr], fun now' hn' => ?_⟩
  have hn : now < now' := hn' now (by simp)
  rw [← hr]
  obtain ⟨c0, c1, u1, w, le⟩ := hw
  dsimp only at c0 c1 u1 w le ⊢
  have lt : ((l.take come.toNat).map (fun x : Int × Int => x.2)).length = come.toNat := by rw [List.length_map, List.length_take]; omega
  by_cases hk : decide (t.b = Str.ofString "took") = true
  · have hne := took_ne (by rw [← ht]; exact hk)
    have : (runF g s l pre).1.toNat < come.toNat := by
      have := List.length_pos_iff.mpr hne
      rw [w, List.length_drop, lt] at this
      omega
    rw [if_pos hk, if_pos hk]
    refine ⟨c0, c1, by dsimp only; omega, ?_, fun x hx => by have := le x hx; omega⟩
    dsimp only
    rw [w, List.drop_drop]
    congr 1
    omega
  · rw [if_neg hk, if_neg hk]
    exact ⟨c0, c1, by dsimp only; omega, by dsimp only; rw [Int.add_zero]; exact w, fun x hx => by have := le x hx; omega⟩
end GL
namespace GL
open PySem PySem.Spec PyProof.Rows L2
abbrev RS := List (Int × Tp Int) × Dct Int × Int × List Int
abbrev RR := T3 (List (Int × Tp Int)) Int (Tp Int)
def rdC (most sl : Int) (s : RS) : Bool := !decide (s.2.2.2 = []) && (decide ((s.1.length : Int) < most) && (decide (s.1 = []) || decide (sl < (s.2.2.2.length : Int))))
def rdCop (b tick : Int) (c : Dct Int) (ps : Int × Int) : Dct Int := c.put ps.2 (tick + ps.1 / b)
def rdDue (n : Int) (trace : List (Tp Int)) (copied : Dct Int) (tick : Int) : List Int := ((rng 0 n).filter fun x => ((writtenIn trace 0 tick).get? x).isSome && decide (dix copied x ≤ dix (writtenIn trace 0 tick) x)).map fun x => x
def rdN (n : Int) (trace : List (Tp Int)) (b : Int) (s : RS) : RS :=
  (s.1 ++ [(s.2.2.1, ⟨s.2.2.2⟩)], (enumI s.2.2.2).foldl (rdCop b s.2.2.1) s.2.1, s.2.2.1 + ((s.2.2.2.length : Int) + b - 1) / b, rdDue n trace ((enumI s.2.2.2).foldl (rdCop b s.2.2.1) s.2.1) (s.2.2.1 + ((s.2.2.2.length : Int) + b - 1) / b))
def rdB (n : Int) (trace : List (Tp Int)) (b : Int) (s : RS) : Fl RS RR := .nx (rdN n trace b s)
def rdK (s : RS) : RR := ⟨s.1, s.2.2.1, ⟨s.2.2.2⟩⟩
@[irreducible] def roundsM (n : Int) (trace : List (Tp Int)) (b sl most : Int) : RR := whl (rdC most sl) (rdB n trace b) rdK most.toNat ([], Dct.emp, 0, rng 0 n)
structure RdI (n b most : Int) (s : RS) : Prop where
  due : ∀ x ∈ s.2.2.2, 0 ≤ x ∧ x < n
  len : (s.2.2.2.length : Int) ≤ n
  cov : ∀ x, 0 ≤ x → x < n → (s.2.1.get? x).isSome = true ∨ x ∈ s.2.2.2
  cok : s.2.1.Ok 1000
  t0 : 0 ≤ s.2.2.1
  t1 : s.2.2.1 ≤ 2000 * (s.1.length : Int)
structure RdP (n : Int) (trace : List (Tp Int)) (b most : Int) : Prop where
  n0 : 0 ≤ n
  n1 : n ≤ 1000
  tr : TrOk trace
  b0 : 1 ≤ b
  b1 : b ≤ 1000
  m0 : 0 ≤ most
  m1 : most ≤ 1000
theorem rdC_lt {most sl : Int} {s : RS} (h : rdC most sl s = true) : (s.1.length : Int) < most := by
  unfold rdC at h
  simp only [Bool.and_eq_true, decide_eq_true_eq] at h
  exact h.2.1
theorem cop_ok {b tick : Int} {l : List (Int × Int)} (hl : ∀ p ∈ l, 0 ≤ p.2 ∧ p.2 < 1000) : ∀ {d : Dct Int}, d.Ok 1000 → (l.foldl (rdCop b tick) d).Ok 1000 := by
  induction l with
  | nil => intro d h; exact h
  | cons p l ih =>
    intro d h
    exact ih (fun q hq => hl q (List.mem_cons_of_mem _ hq)) (h.put _ (hl p List.mem_cons_self))
theorem cop_keep {b tick x : Int} {l : List (Int × Int)} : ∀ {d : Dct Int}, (d.get? x).isSome = true → ((l.foldl (rdCop b tick) d).get? x).isSome = true := by
  induction l with
  | nil => intro d h; exact h
  | cons p l ih =>
    intro d h
    refine ih ?_
    unfold rdCop
    rw [Dct.get?_put]
    split
    · rfl
    · exact h
theorem cop_has {b tick x : Int} {l : List (Int × Int)} : ∀ {d : Dct Int}, x ∈ l.map (·.2) → ((l.foldl (rdCop b tick) d).get? x).isSome = true := by
  induction l with
  | nil => intro d h; simp at h
  | cons p l ih =>
    intro d h
    rw [List.map_cons, List.mem_cons] at h
    rcases h with h | h
    · refine cop_keep (d := rdCop b tick d p) ?_
      unfold rdCop
      rw [Dct.get?_put, if_pos h]
      rfl
    · exact ih h
theorem enumI_snd {α : Type} (xs : List α) : (enumI xs).map (·.2) = xs := by
  unfold enumI
  rw [List.map_map]
  show List.map (fun p => p.1) xs.zipIdx = xs
  exact List.zipIdx_map_fst 0 xs
theorem enumI_fst {α : Type} {xs : List α} {p : Int × α} (h : p ∈ enumI xs) : p.2 ∈ xs := List.mem_of_getElem? (mem_enumI.mp h).2
theorem RdI.copOk {n b most : Int} {s : RS} (I : RdI n b most s) (hn : n ≤ 1000) {pre : List (Int × Int)} (h : ∀ p ∈ pre, p ∈ enumI s.2.2.2) : (pre.foldl (rdCop b s.2.2.1) s.2.1).Ok 1000 :=
  cop_ok (fun p hp => by have := I.due p.2 (enumI_fst (h p hp)); omega) I.cok
theorem RdI.covered {n b most : Int} {s : RS} (I : RdI n b most s) {x : Int} (h0 : 0 ≤ x) (h1 : x < n) : (((enumI s.2.2.2).foldl (rdCop b s.2.2.1) s.2.1).get? x).isSome = true := by
  rcases I.cov x h0 h1 with h | h
  · exact cop_keep h
  · exact cop_has (by rw [enumI_snd]; exact h)
theorem due_mem {n tick : Int} {trace : List (Tp Int)} {c : Dct Int} {x : Int} (h : x ∈ rdDue n trace c tick) : 0 ≤ x ∧ x < n := by
  unfold rdDue at h
  rw [List.map_id'] at h
  exact mem_rng.mp (List.mem_filter.mp h).1
theorem div_bound {l b : Int} (hb : 1 ≤ b) (hl : 0 ≤ l) : 0 ≤ (l + b - 1) / b ∧ (l + b - 1) / b ≤ l := by
  refine ⟨Int.ediv_nonneg (by omega) (by omega), ?_⟩
  have h : (l + b - 1) / b < l + 1 := by
    apply Int.ediv_lt_of_lt_mul (by omega)
    have : l * b ≥ l := by
      have := Int.mul_le_mul_of_nonneg_left hb hl
      omega
    rw [Int.add_mul]
    omega
  omega
theorem RdI.next {n b most : Int} {trace : List (Tp Int)} {s : RS} (P : RdP n trace b most) (I : RdI n b most s) : RdI n b most (rdN n trace b s) := by
  have hb := div_bound (l := (s.2.2.2.length : Int)) P.b0 (by omega)
  refine ⟨fun x hx => due_mem hx, ?_, fun x h0 h1 => .inl (I.covered h0 h1), I.copOk P.n1 fun _ h => h, ?_, ?_⟩
  · show ((rdDue n trace _ _).length : Int) ≤ n
    unfold rdDue
    rw [List.length_map]
    have h1 := List.length_filter_le (fun x => ((writtenIn trace 0 (s.2.2.1 + ((s.2.2.2.length : Int) + b - 1) / b)).get? x).isSome && decide (dix ((enumI s.2.2.2).foldl (rdCop b s.2.2.1) s.2.1) x ≤ dix (writtenIn trace 0 (s.2.2.1 + ((s.2.2.2.length : Int) + b - 1) / b)) x)) (rng 0 n)
    rw [len_rng] at h1
    have := P.n0
    omega
  · show 0 ≤ s.2.2.1 + ((s.2.2.2.length : Int) + b - 1) / b
    have := I.t0
    omega
  · show s.2.2.1 + ((s.2.2.2.length : Int) + b - 1) / b ≤ 2000 * ((s.1 ++ [(s.2.2.1, (⟨s.2.2.2⟩ : Tp Int))]).length : Int)
    rw [List.length_append]
    have h1 := I.t1
    have h2 := I.len
    have h3 := P.n1
    simp only [List.length_singleton]
    omega
theorem RdI.start {n b most : Int} (hn : 0 ≤ n) : RdI n b most ([], Dct.emp, 0, rng 0 n) :=
  ⟨fun x hx => mem_rng.mp hx, by show ((rng 0 n).length : Int) ≤ n; rw [len_rng]; omega, fun x h0 h1 => .inr (mem_rng.mpr ⟨h0, h1⟩), Dct.Ok.emp, Int.le_refl _, by show (0 : Int) ≤ 2000 * (0 : Int); omega⟩
end GL
namespace GL
open PySem PySem.Spec PyProof.Rows L2
def lastW (trace : List (Tp Int)) (stop s : Int) : Int := (lastN trace stop.toNat s).getD (-1)
@[irreducible] def lastsM (n : Int) (trace : List (Tp Int)) (stop : Int) : List Int := (rng 0 n).map fun x => lastW trace stop x
@[irreducible] def lackM (lasts : List Int) (b stop t : Int) : Int := ((lasts.filter fun x => decide (t ≤ x)).length : Int) - b * (stop - t - 1)
@[irreducible] def barsM (n : Int) (trace : List (Tp Int)) (b s stop t : Int) : Bool := if -1 ≤ t ∧ t < stop then decide (s < lackM (lastsM n trace stop) b stop t) else false
def lawLastS (trail : List (Tp Int)) (sheet : Int) (found beat : Int) : Int := if decide (sheet ∈ (ix trail beat).l) = true then beat else found
end GL
namespace GL
open PySem PySem.Spec PyProof.Rows L2
def lsStep (ls : List Int) (b stop : Int) (s : Int × Option Int) (t : Int) : Int × Option Int :=
  if decide (t < stop) && decide (s.1 < lackM ls b stop t) then (lackM ls b stop t, some t) else s
def lsFold (ls : List Int) (b stop : Int) : Int × Option Int := (usrt ls).foldl (lsStep ls b stop) (0, none)
@[irreducible] def leastM (n : Int) (trace : List (Tp Int)) (b stop : Int) : Int × Option Int := lsFold (lastsM n trace stop) b stop
@[irreducible] def lawLeastM (n : Int) (trace : List (Tp Int)) (b stop : Int) : Int := maxL ([0] ++ (rng (-1) stop).map fun t => lackM (lastsM n trace stop) b stop t)
structure LsI (ls : List Int) (b stop : Int) (xs : List Int) (s : Int × Option Int) : Prop where
  nn : 0 ≤ s.1
  all : ∀ t ∈ xs, t < stop → lackM ls b stop t ≤ s.1
  nil : s.1 = 0 ↔ s.2 = none
  at_ : ∀ t, s.2 = some t → t ∈ xs ∧ t < stop ∧ lackM ls b stop t = s.1
end GL
namespace GL
open PySem PySem.Spec PyProof.Rows L2
def inT (stop : Int) (t : Int) : Bool := decide (0 ≤ t) && decide (t < stop)
def copStep (stop : Int) (d : Dct Int) (p : Int × Int) : Dct Int := if inT stop p.1 = true then d.put p.2 (max p.1 ((d.get? p.2).getD p.1)) else d
@[irreducible] def copM (copies : List (Int × Int)) (stop : Int) : Dct Int := copies.foldl (copStep stop) Dct.emp
@[irreducible] def leftM (n : Int) (trace : List (Tp Int)) (plan : List (Int × Int) × Int) : List Int := (rng 0 n).filter fun x => !((copM plan.1 plan.2).get? x).isSome || decide (dix (copM plan.1 plan.2) x ≤ ((writtenIn trace 0 plan.2).get? x).getD (-1))
def tks (copies : List (Int × Int)) (stop x : Int) : List Int := (copies.filter fun p => decide (p.2 = x) && inT stop p.1).map (·.1)
theorem lastG (trace : List (Tp Int)) (stop x : Int) : ((writtenIn trace 0 stop).get? x).getD (-1) = lastW trace stop x := by
  unfold lastW
  rw [writtenIn_get]
def lfT (trace : List (Tp Int)) (copies : List (Int × Int)) (stop x : Int) : Bool := decide (tks copies stop x = []) || decide (maxL (tks copies stop x) ≤ lastW trace stop x)
def lfStep (trace : List (Tp Int)) (plan : List (Int × Int) × Int) (f : List Int) (x : Int) : List Int := if lfT trace plan.1 plan.2 x = true then f ++ [x] else f
end GL
namespace GL
open PySem PySem.Spec PyProof.Rows L2
@[irreducible] def dueM (lasts : List Int) (m : Int) : List Int := cutL ((srt2 ((enumI lasts).map fun x => (x.2, x.1))).map fun x => x.2) none (some m)
@[irreducible] def plc (b stop : Int) (xs : List Int) : List (Int × Int) := (enumI xs).map fun p => (stop - 1 - p.1 / b, p.2)
abbrev PlanT := Str × Sum (List (Int × Int)) (Option Int)
@[irreducible] def planM (n : Int) (trace : List (Tp Int)) (b s stop : Int) : PlanT :=
  if decide (s < (leastM n trace b stop).1) = true then (Str.ofString "barred", .inr (leastM n trace b stop).2)
  else (Str.ofString "plan", .inl (srt2 (plc b stop (dueM (lastsM n trace stop) (max 0 (n - s))).reverse)))
def roomF (b stop k t : Int) : Int := if t < stop then max 0 (min b (k - b * (stop - 1 - t))) else 0
def tickF (b stop k : Int) : Int := if k = 0 then stop - 1 else stop - 1 - (k - 1) / b
theorem roomF_0 {b stop t : Int} (hb : 0 < b) : roomF b stop 0 t = 0 := by
  unfold roomF
  split
  · have := Int.mul_nonneg (show 0 ≤ b by omega) (show 0 ≤ stop - 1 - t by omega)
    omega
  · rfl
theorem roomF_succ {b stop k t : Int} (hb : 0 < b) (hk : 0 ≤ k) : roomF b stop (k + 1) t = roomF b stop k t + (if t = stop - 1 - k / b then 1 else 0) := by
  have e1 := Int.mul_ediv_self_le (x := k) (k := b) (by omega)
  have e2 := Int.lt_mul_ediv_self_add (x := k) (k := b) hb
  have e3 : 0 ≤ k / b := Int.ediv_nonneg hk (by omega)
  generalize k / b = q at *
  unfold roomF
  by_cases ht : t < stop
  · rw [if_pos ht, if_pos ht]
    rcases Int.lt_trichotomy (stop - 1 - t) q with h | h | h
    · have := Int.mul_le_mul_of_nonneg_left (show stop - 1 - t + 1 ≤ q by omega) (show 0 ≤ b by omega)
      rw [Int.mul_add, Int.mul_one] at this
      rw [if_neg (by omega)]
      omega
    · rw [if_pos (by omega), h]
      omega
    · have := Int.mul_le_mul_of_nonneg_left (show q + 1 ≤ stop - 1 - t by omega) (show 0 ≤ b by omega)
      rw [Int.mul_add, Int.mul_one] at this
      rw [if_neg (by omega)]
      omega
  · rw [if_neg ht, if_neg ht, if_neg (by omega)]
    rfl
theorem tickF_succ {b stop k : Int} (hk : 0 ≤ k) : tickF b stop (k + 1) = stop - 1 - k / b := by
  unfold tickF
  rw [if_neg (by omega), Int.add_sub_cancel]
theorem plc_snoc (b stop : Int) (xs : List Int) (x : Int) : plc b stop (xs ++ [x]) = plc b stop xs ++ [(stop - 1 - (xs.length : Int) / b, x)] := by
  unfold plc enumI
  rw [List.zipIdx_append, List.map_append, List.map_append]
  simp
structure PlI (b stop : Int) (pre : List Int) (st : List (Int × Int) × Dct Int × Int) : Prop where
  cop : st.1 = plc b stop pre
  room : ∀ t, ((st.2.1.get? t).getD 0) = roomF b stop pre.length t
  few : st.2.1.l.length ≤ pre.length
  tick : st.2.2 = tickF b stop pre.length
theorem PlI.start (b stop : Int) (hb : 0 < b) : PlI b stop [] ([], Dct.emp, stop - 1) :=
  ⟨by unfold plc enumI; rfl, fun t => by show (0 : Int) = roomF b stop ((0 : Nat) : Int) t; rw [show ((0 : Nat) : Int) = 0 from rfl, roomF_0 hb], Nat.le_refl _, by unfold tickF; rfl⟩
theorem Dct.put_len {α : Type} (d : Dct α) (k : Int) (x : α) : (d.put k x).l.length ≤ d.l.length + 1 := by
  unfold Dct.put
  dsimp only
  split
  · rw [List.length_map]; omega
  · rw [List.length_append]; simp
theorem PlI.next {b stop : Int} {pre : List Int} {c : List (Int × Int)} {r : Dct Int} {t t' x : Int} (h : PlI b stop pre (c, r, t)) (hb : 0 < b) (e : t' = stop - 1 - (pre.length : Int) / b) :
    PlI b stop (pre ++ [x]) (c ++ [(t', x)], r.put t' ((r.get? t').getD 0 + 1), t') := by
  have hr := h.room
  have hc := h.cop
  have hf := h.few
  dsimp only at hr hc hf
  have el : ((pre ++ [x]).length : Int) = (pre.length : Int) + 1 := by simp
  refine ⟨?_, fun j => ?_, ?_, ?_⟩
  · dsimp only; rw [plc_snoc, hc, e]
  · dsimp only
    rw [el, roomF_succ hb (by omega), Dct.get?_put, ← e]
    by_cases hj : j = t'
    · rw [if_pos hj, if_pos hj, hr, hj]; rfl
    · rw [if_neg hj, if_neg hj, hr]; omega
  · have := Dct.put_len r t' ((r.get? t').getD 0 + 1)
    simp only [List.length_append, List.length_singleton]
    omega
  · dsimp only; rw [el, tickF_succ (by omega), e]
end GL
namespace GL
open PySem PySem.Spec PyProof.Rows L2
instance : Inhabited (Tp Int) := ⟨⟨[]⟩⟩
abbrev ScanT := Sum (T3 Str Int (List (Int × Int))) (Str × List Int)
def scB (n : Int) (trace : List (Tp Int)) (b s : Int) (found : List Int) (stop : Int) : Fl (List Int) ScanT :=
  if decide ((planM n trace b s stop).1 = Str.ofString "plan") = true then .rt (.inl ⟨Str.ofString "stop", stop, lG (planM n trace b s stop).2⟩) else .nx (found ++ [(rG (planM n trace b s stop).2).getD default])
@[irreducible] def scanM (w : Str) (n : Int) (trace : List (Tp Int)) (b s m : Int) : ScanT := forL (scB n trace b s) (fun f => .inr (w, f)) (rng 0 m) []
@[irreducible] def longM (lead ring : List (Tp Int)) (stop : Int) : List (Tp Int) := whl (fun f => decide ((f.length : Int) < stop)) (fun f => Fl.nx (f ++ ring)) id stop.toNat lead
def manyM (n : Int) (lead ring : List (Tp Int)) (b : Int) : Int := (lead.length : Int) + (ring.length : Int) + (n + b - 1) / b
@[irreducible] def everM (n : Int) (lead ring : List (Tp Int)) (b s : Int) : ScanT := scanM (Str.ofString "never") n (longM lead ring (manyM n lead ring b)) b s (manyM n lead ring b)
end GL
namespace GL
open PySem PySem.Spec PyProof.Rows L2
end GL
namespace GL
open PySem PySem.Spec PyProof.Rows L2
theorem ceil_le {n b j : Int} (hb : 0 < b) : (n + b - 1) / b ≤ j ↔ n ≤ b * j := by
  have e1 := Int.mul_ediv_self_le (x := n + b - 1) (k := b) (by omega)
  have e2 := Int.lt_mul_ediv_self_add (x := n + b - 1) (k := b) hb
  generalize (n + b - 1) / b = q at *
  constructor
  · intro h
    have := Int.mul_le_mul_of_nonneg_left h (show 0 ≤ b by omega)
    omega
  · intro h
    by_cases g : q ≤ j
    · exact g
    · have := Int.mul_le_mul_of_nonneg_left (show j + 1 ≤ q by omega) (show 0 ≤ b by omega)
      rw [Int.mul_add, Int.mul_one] at this
      omega
abbrev wholeT (n : Int) : Tp Int := ⟨rng 0 n⟩
instance {α β γ : Type} [Inhabited α] [Inhabited β] [Inhabited γ] : Inhabited (T3 α β γ) := ⟨⟨default, default, default⟩⟩
end GL
namespace GL
open PySem PySem.Spec PyProof.Rows L2
section
variable {n b most : Int} (hn : 1 ≤ n) (hb : 1 ≤ b)
include hn hb
end
end GL
namespace GL
open PySem PySem.Spec PyProof.Rows L2
theorem lastN_lt10 (T : List (Tp Int)) (x : Int) : ∀ k : Nat, (lastN T k x).getD (-1) < k
  | 0 => by show (-1 : Int) < 0; omega
  | k + 1 => by
    rw [lastN]
    split
    · show (k : Int) < ((k + 1 : Nat) : Int); omega
    · have := lastN_lt10 T x k; omega
theorem lastW_lt {T : List (Tp Int)} {k x : Int} (h : 0 ≤ k) : lastW T k x < k := by
  have := lastN_lt10 T x k.toNat
  unfold lastW
  omega
theorem lastW_next {T : List (Tp Int)} {k x : Int} (h : 0 ≤ k) : lastW T (k + 1) x = if x ∈ (T.getD k.toNat ⟨[]⟩).l then k else lastW T k x := by
  unfold lastW
  rw [show (k + 1).toNat = k.toNat + 1 by omega, lastN]
  split
  · show ((k.toNat : Nat) : Int) = k; omega
  · rfl
structure Fr (T : List (Tp Int)) (fresh : Dct Bool) (cop : Dct Int) (beat : Int) : Prop where
  iff : ∀ x, (fresh.get? x).isSome = true ↔ ∃ c, cop.get? x = some c ∧ lastW T beat x < c
  le : ∀ x c, cop.get? x = some c → 0 ≤ c ∧ c ≤ beat
  ok : fresh.Ok 1000
theorem Fr.start (T : List (Tp Int)) : Fr T Dct.emp Dct.emp 0 := ⟨fun x => ⟨fun h => absurd h Bool.false_ne_true, fun ⟨c, h, _⟩ => (nomatch h)⟩, fun x c h => (nomatch h), Dct.Ok.emp⟩
theorem Fr.put {T : List (Tp Int)} {fresh : Dct Bool} {cop : Dct Int} {beat x : Int} (h : Fr T fresh cop beat) (h0 : 0 ≤ beat) (hx : 0 ≤ x ∧ x < 1000) : Fr T (fresh.put x true) (cop.put x beat) beat := by
  refine ⟨fun y => ?_, fun y c hc => ?_, h.ok.put _ hx⟩
  · rw [Dct.get?_put, Dct.get?_put]
    by_cases e : y = x
    · rw [if_pos e, if_pos e]
      exact ⟨fun _ => ⟨beat, rfl, lastW_lt h0⟩, fun _ => rfl⟩
    · rw [if_neg e, if_neg e]
      exact h.iff y
  · rw [Dct.get?_put] at hc
    by_cases e : y = x
    · rw [if_pos e] at hc
      have : beat = c := Option.some.inj hc
      omega
    · rw [if_neg e] at hc
      exact h.le y c hc
theorem get?_dels (x : Int) : ∀ (l : List Int) (d : Dct Bool), (l.foldl (fun f y => f.del y) d).get? x = if x ∈ l then none else d.get? x
  | [], d => by simp
  | y :: l, d => by
    rw [List.foldl_cons, get?_dels x l, Dct.get?_del]
    by_cases h : x ∈ l
    · rw [if_pos h, if_pos (List.mem_cons_of_mem _ h)]
    · rw [if_neg h]
      by_cases e : x = y
      · rw [if_pos e, if_pos (by rw [e]; exact List.mem_cons_self)]
      · rw [if_neg e, if_neg (fun q => (List.mem_cons.mp q).elim e h)]
theorem dels_ok : ∀ (l : List Int) {d : Dct Bool}, d.Ok 1000 → (l.foldl (fun f y => f.del y) d).Ok 1000
  | [], d, h => h
  | y :: l, d, h => dels_ok l (h.del y)
theorem Fr.row {T : List (Tp Int)} {fresh : Dct Bool} {cop : Dct Int} {beat : Int} (h : Fr T fresh cop beat) (h0 : 0 ≤ beat) : Fr T ((T.getD beat.toNat ⟨[]⟩).l.foldl (fun f y => f.del y) fresh) cop (beat + 1) := by
  refine ⟨fun y => ?_, fun y c hc => by have := h.le y c hc; omega, dels_ok _ h.ok⟩
  rw [get?_dels, lastW_next h0]
  by_cases e : y ∈ (T.getD beat.toNat ⟨[]⟩).l
  · rw [if_pos e, if_pos e]
    refine ⟨fun z => absurd z Bool.false_ne_true, fun ⟨c, hc, q⟩ => ?_⟩
    have := h.le y c hc
    omega
  · rw [if_neg e, if_neg e]
    exact h.iff y
structure DuT (T : List (Tp Int)) (b tick : Int) (W : List Int) (cop0 : Dct Int) (beat : Int) (q : Nat) (fresh : Dct Bool) (waits : List Int) : Prop where
  w : waits = W.drop q
  f : Fr T fresh (((enumI W).take q).foldl (rdCop b tick) cop0) beat
theorem enum_take {W : List Int} {q : Nat} (h : q < W.length) : (enumI W).take (q + 1) = (enumI W).take q ++ [((q : Int), W[q])] := by
  rw [List.take_add_one]
  congr 1
  unfold enumI
  rw [List.getElem?_map, List.getElem?_zipIdx, List.getElem?_eq_getElem h]
  simp
theorem DuT.next {T : List (Tp Int)} {b tick : Int} {W : List Int} {cop0 : Dct Int} {beat : Int} {q : Nat} {fresh : Dct Bool} {waits : List Int} (I : DuT T b tick W cop0 beat q fresh waits) (hW : ∀ x ∈ W, 0 ≤ x ∧ x < 1000) (h0 : 0 ≤ beat) (hq : q < W.length) (hj : tick + (q : Int) / b = beat) : DuT T b tick W cop0 beat (q + 1) (fresh.put (ix waits 0) true) (waits.drop 1) := by
  have e : ix waits 0 = W[q] := by
    rw [I.w]
    unfold ix
    rw [List.getD_eq_getElem?_getD, show (0 : Int).toNat = 0 from rfl, List.getElem?_drop, Nat.add_zero, List.getElem?_eq_getElem hq]
    rfl
  refine ⟨by rw [I.w, List.drop_drop], ?_⟩
  rw [enum_take hq, List.foldl_append, List.foldl_cons, List.foldl_nil, e]
  show Fr T _ (Dct.put _ W[q] (tick + (q : Int) / b)) beat
  rw [hj]
  exact I.f.put h0 (hW _ (List.getElem_mem hq))
def DuI (T : List (Tp Int)) (b tick : Int) (W : List Int) (cop0 : Dct Int) (st : Dct Bool × Int × List Int) : Prop :=
  ∃ j p : Nat, st.2.1 = tick + j ∧ p ≤ W.length ∧ p ≤ j * b.toNat ∧ (p < W.length → p = j * b.toNat) ∧ (0 < j → (j - 1) * b.toNat < W.length) ∧ DuT T b tick W cop0 st.2.1 p st.1 st.2.2
theorem DuI.start {T : List (Tp Int)} {b tick : Int} {W : List Int} {cop0 : Dct Int} {fresh : Dct Bool} (h : Fr T fresh cop0 tick) : DuI T b tick W cop0 (fresh, tick, W) :=
  ⟨0, 0, by show tick = tick + ((0 : Nat) : Int); omega, Nat.zero_le _, by omega, fun _ => by omega, fun h => absurd h (by omega), ⟨rfl, h⟩⟩
theorem DuI.fin {T : List (Tp Int)} {b tick : Int} {W : List Int} {cop0 : Dct Int} {fresh : Dct Bool} {beat : Int} {waits : List Int} (I : DuI T b tick W cop0 (fresh, beat, waits)) (hb : 1 ≤ b) (hW : W ≠ []) (hw : waits = []) : beat = tick + ((W.length : Int) + b - 1) / b ∧ Fr T fresh ((enumI W).foldl (rdCop b tick) cop0) beat := by
  obtain ⟨j, p, e, h1, h2, h3, h4, h5⟩ := I
  dsimp only at e h5
  have hp : p = W.length := by
    have := h5.w
    rw [hw] at this
    have := congrArg List.length this
    rw [List.length_drop, List.length_nil] at this
    omega
  have hl : 0 < W.length := List.length_pos_iff.mpr hW
  have hj : 0 < j := Nat.pos_of_ne_zero fun z => by rw [z, Nat.zero_mul] at h2; omega
  have h6 := h4 hj
  have hbn : ((b.toNat : Nat) : Int) = b := by omega
  have a1 : ((W.length : Int) + b - 1) / b ≤ j := (ceil_le (by omega)).mpr (by
    rw [hp] at h2
    have : ((W.length : Nat) : Int) ≤ ((j * b.toNat : Nat) : Int) := by omega
    rw [Int.natCast_mul, hbn, Int.mul_comm] at this
    exact this)
  have a2 : ¬ ((W.length : Int) + b - 1) / b ≤ j - 1 := fun z => by
    have := (ceil_le (n := (W.length : Int)) (b := b) (j := (j : Int) - 1) (by omega)).mp z
    have h7 : (((j - 1) * b.toNat : Nat) : Int) < ((W.length : Nat) : Int) := by omega
    rw [Int.natCast_mul, hbn, Int.mul_comm, show ((j - 1 : Nat) : Int) = (j : Int) - 1 by omega] at h7
    omega
  refine ⟨by omega, ?_⟩
  have h8 := h5.f
  rw [hp, ← len_enumI, List.take_length] at h8
  exact h8
theorem DuI.step {T : List (Tp Int)} {b tick : Int} {W : List Int} {cop0 : Dct Int} {beat : Int} {j p m : Nat} {fresh : Dct Bool} {waits : List Int} (hb : 1 ≤ b) (h0 : 0 ≤ beat) (e : beat = tick + j) (hp : p < W.length) (hpj : p = j * b.toNat) (hm : (m : Int) = min b ((W.length - p : Nat) : Int)) (I : DuT T b tick W cop0 beat (p + m) fresh waits) :
    DuI T b tick W cop0 ((T.getD beat.toNat ⟨[]⟩).l.foldl (fun f y => f.del y) fresh, beat + 1, waits) := by
  have hs : (j + 1) * b.toNat = j * b.toNat + b.toNat := Nat.succ_mul j b.toNat
  refine ⟨j + 1, p + m, by show beat + 1 = tick + ((j + 1 : Nat) : Int); omega, by omega, by omega, fun z => by omega, fun _ => by rw [Nat.add_sub_cancel]; omega, ⟨I.w, I.f.row h0⟩⟩
def DoI (n : Int) (T : List (Tp Int)) (b s most : Int) (st : Dct Bool × List (Int × Tp Int) × Int × List Int) : Prop :=
  ∃ (m : Nat) (cop : Dct Int), roundsM n T b s most = whl (rdC most s) (rdB n T b) rdK m (st.2.1, cop, st.2.2.1, st.2.2.2) ∧ RdI n b most (st.2.1, cop, st.2.2.1, st.2.2.2) ∧ most ≤ st.2.1.length + m ∧ Fr T st.1 cop st.2.2.1 ∧ (st.2.1 = [] → st.2.2.2 ≠ [])
def dueC (most s : Int) (st : Dct Bool × List (Int × Tp Int) × Int × List Int) : Bool := decide (st.2.1 = []) || (decide ((st.2.1.length : Int) < most) && decide (s < (st.2.2.2.length : Int)))
theorem DoI.start {n : Int} {T : List (Tp Int)} {b s most : Int} (hn : 1 ≤ n) (hm : 1 ≤ most) : DoI n T b s most (Dct.emp, [], 0, rng 0 n) :=
  ⟨most.toNat, Dct.emp, by unfold roundsM; rfl, RdI.start (by omega), by show most ≤ ((([] : List (Int × Tp Int)).length : Nat) : Int) + (most.toNat : Int); simp; omega, Fr.start T, fun _ z => by
    have := congrArg List.length z
    rw [len_rng] at this
    simp at this
    omega⟩
theorem due_law {n tick : Int} {T : List (Tp Int)} {fresh : Dct Bool} {cop : Dct Int} (h : Fr T fresh cop tick) (hc : ∀ x, 0 ≤ x → x < n → (cop.get? x).isSome = true) : (rng 0 n).filter (fun x => !(fresh.get? x).isSome) = rdDue n T cop tick := by
  unfold rdDue
  rw [List.map_id']
  apply List.filter_congr
  intro x hx
  have hx' := mem_rng.mp hx
  obtain ⟨c, hcx⟩ := Option.isSome_iff_exists.mp (hc x hx'.1 hx'.2)
  have hd : dix cop x = c := dix_of hcx
  have h1 := h.iff x
  have h2 := h.le x c hcx
  have h3 := lastG T tick x
  rw [hd]
  cases e : (writtenIn T 0 tick).get? x with
  | none =>
    rw [e] at h3
    have h4 : lastW T tick x = -1 := h3.symm
    have : (fresh.get? x).isSome = true := h1.mpr ⟨c, hcx, by omega⟩
    rw [this]
    rfl
  | some t =>
    rw [e] at h3
    have h4 : t = lastW T tick x := h3
    have h5 : dix (writtenIn T 0 tick) x = t := dix_of e
    rw [h5]
    by_cases q : t < c
    · rw [h1.mpr ⟨c, hcx, by omega⟩, decide_eq_false (by omega)]
      rfl
    · have : (fresh.get? x).isSome = false := Bool.eq_false_iff.mpr fun z => by
        obtain ⟨c', e1, e2⟩ := h1.mp z
        rw [hcx] at e1
        cases e1
        omega
      rw [this, decide_eq_true (by omega)]
      rfl
theorem DoI.next {n : Int} {T : List (Tp Int)} {b s most : Int} {fresh fresh' : Dct Bool} {found : List (Int × Tp Int)} {beat beat' : Int} {waits : List Int} {m : Nat} {cop : Dct Int} (P : RdP n T b most)
    (h1 : roundsM n T b s most = whl (rdC most s) (rdB n T b) rdK m (found, cop, beat, waits)) (h2 : RdI n b most (found, cop, beat, waits)) (h3 : most ≤ found.length + m) (hc : rdC most s (found, cop, beat, waits) = true)
    (hb : beat' = beat + ((waits.length : Int) + b - 1) / b) (hf : Fr T fresh' ((enumI waits).foldl (rdCop b beat) cop) beat') :
    DoI n T b s most (fresh', found ++ [(beat, ⟨waits⟩)], beat', (rng 0 n).filter (fun x => !(fresh'.get? x).isSome)) := by
  have hlt := rdC_lt hc
  dsimp only at hlt
  have e : rdN n T b (found, cop, beat, waits) = (found ++ [(beat, ⟨waits⟩)], (enumI waits).foldl (rdCop b beat) cop, beat', (rng 0 n).filter (fun x => !(fresh'.get? x).isSome)) := by
    rw [due_law hf fun x x0 x1 => h2.covered x0 x1]
    subst hb
    rfl
  cases m with
  | zero => omega
  | succ m =>
    refine ⟨m, (enumI waits).foldl (rdCop b beat) cop, ?_, ?_, ?_, hf, fun z => absurd z (by simp)⟩
    · have := whl_nx h1 hc rfl
      rw [e] at this
      exact this
    · have := h2.next P
      rw [e] at this
      exact this
    · show most ≤ (((found ++ [(beat, (⟨waits⟩ : Tp Int))]).length : Nat) : Int) + (m : Int)
      rw [List.length_append, List.length_singleton]
      omega
end GL
namespace GL
open PySem PySem.Spec PyProof.Rows L2
variable {C : Addr}
def NoLack (z : Car C) : Prop := ∀ p, (z.absent.get? p).isSome = false
structure CarRun (g : Prog) (s : Stand) (l : Lets) (t av : Int) (z : Car C) : Prop where
  gg : z.g = g
  st : z.st = (runF g s l (rng 0 t)).2.1
  wait : z.wait = (availM l av).drop (runF g s l (rng 0 t)).1.toNat
  done : z.done = t
  sl : (z.said.length : Int) ≤ t
theorem CarRun.ok {g : Prog} {s : Stand} {l : Lets} {t av : Int} {z : Car C} (h : CarRun g s l t av z) (hg : ProgOk g) (hs : StandOk g s) (hl : LetsOk g l) (ht : t ≤ 100000) : CarOk z := by
  obtain ⟨h1, h2, h3, h4, h5⟩ := h
  have ha := avail_ok hl av (runF g s l (rng 0 t)).1.toNat
  exact ⟨by rw [h1]; exact hg, by rw [h1, h2]; exact (run_ok hg hs hl _).1, by rw [h1, h3]; exact ha.1, by rw [h3]; exact ha.2, by omega⟩
def lastC (cps : List (Int × Int)) (p : Int) : Option Int := ((cps.filter fun c => decide (c.2 = p)).map (·.1)).getLast?
def freshB (cps : List (Int × Int)) (tou : Tou) (p : Int) : Bool := match lastC cps p with
  | none => false
  | some k => ((rng k tou.length).filter fun j => decide (p ∈ (ix tou j).2.l)).isEmpty
structure Going (h : Int) (cps : List (Int × Int)) (tou : Tou) (z : Car C) : Prop where
  goal : z.goal = some h
  still : z.still = false
  ab : z.absent.l = []
  made : z.made = cps.length
  fr : ∀ p, (z.fresh.get? p).isSome = freshB cps tou p
  fl : z.fresh.l.length ≤ cps.length
end GL
namespace L2
open PySem PySem.Spec PyProof.Rows
section
variable {X : Cx}
def tMethW (C : Addr) (m : Str) (sp : Sp) (E : St → XK) (ta : TE) (t : TA) : TE := fun σ H Q => ta σ H fun x H1 => ∃ a dx fs, x = .ref a ∧ H1 a = some (.ins C dx fs) ∧ fs.lookup m = none ∧ t σ H1 fun vs H2 => sp (x :: vs) H2 Q (E σ)
def rCntV (K : PySem.W.Frag) : V → List V → Hp → VK → Prop := fun x xs H Q => ∃ (p : Addr) (ys : List V) (y : V), x = .ref p ∧ xs = [y] ∧ SqL K H p ys ∧ flatV y = true ∧ ys.all flatV = true ∧ Q (.int ((ys.countP fun z => eqV z y) : Nat)) H
end
end L2
namespace GL
open PySem PySem.Spec PyProof.Rows L2
structure MCalX (P : Program) (w : World) (K : Fg) (mg : Str → Option Value) (base : Heap) (k : Nat) (C : Addr) (m : Str) (ps : List Str) (sp : Sp) : Prop where
  ex : ∃ (f : Addr) (fd : FuncData), Meth K C m f ∧ FnOk P w K mg base (L2.CX P w) k f fd ps sp ∧ Binds K fd ps []
def spOX {ω α β : Type} [Own ω] [PyA α] [Py β] (K : Fg) (Y : XC → Addr) (R : ω → α → β → ω → Prop) (Rf : ω → α → XC → Prop) (pre : ω → α → Prop) : Sp := fun vs H Q E => ∃ (S : Hp) (v0 : V) (ws : List V) (ps : List Addr) (z : ω) (a : α), vs = v0 :: ws ∧ Same S H ∧ Own.own K S H v0 ps z ∧
  (∀ p ∈ ps, S p = none ∧ ∃ o, H p = some o) ∧ PyA.rep K S ws a ∧ pre z a ∧
  (∀ v S' H' ps' y z', R z a y z' → Same S S' → Same S' H' → (∀ p o, p ∉ ps → H p = some o → H' p = some o) → (∀ p o, p ∉ ps → H p = some o → S' p = S p) →
    (∀ p ∈ ps', S' p = none ∧ (∃ o, H' p = some o) ∧ (p ∈ ps ∨ H p = none)) → Own.own K S' H' v0 ps' z' → Py.rep K S' v y → Q v H') ∧
  ∀ e S' H', Rf z a e → Same S S' → Same S' H' → (∀ p o, p ∉ ps → H p = some o → H' p = some o) → (∀ p o, p ∉ ps → H p = some o → S' p = S p) → (∀ p ∈ ps, S' p = none ∧ ∃ o, H' p = some o) → Own.own K S' H' v0 ps z → E (.ref (Y e)) none H'
section
variable {C : Addr} {K : Fg} {B S0 S1 S S' D : Hp} {σ : L2.St} {H H' : Hp} {F : Nat → List Addr} {G G' G1 G2 : List Sl} {ta te : TE} {i j : Nat} {t : TA} {u : TS} {E : Ends} {Ex : XK} {m : Str} {Y : XC → Addr} {W : WX}
variable {α β : Type} [PyA α] [Py β] {z z1 : Car C} {a : α} {R : Car C → α → β → Car C → Prop} {Rf : Car C → α → XC → Prop} {pre : Car C → α → Prop}
end
section
variable {P : Program} {w : World} {K : Fg} {mg : Str → Option Value} {base : Heap} {α β : Type} [Sls α] [Py β] {C : Addr} {Y : XC → Addr}
end
end GL
namespace GL
open PySem PySem.Spec PyProof.Rows L2
section
variable {α τ : Type}
def EvW [Py α] (K : Fg) (te : TE) (G : List Sl) (R : τ → Prop) (x : τ → α) (st : τ → List Sl) : Prop :=
  ∀ B S0 S σ H F, Kn K B S0 S σ H F G → ∀ Q : VK, (∀ w, R w → ∀ v S' H', Same S S' → Kn K B S0 S' σ H' F (st w) → Py.rep K S' v (x w) → Q v H') → te σ H Q
def EvAW [PyA α] (K : Fg) (ta : TA) (G : List Sl) (R : τ → Prop) (x : τ → α) (st : τ → List Sl) : Prop :=
  ∀ B S0 S σ H F, Kn K B S0 S σ H F G → ∀ Q : List V → Hp → Prop, (∀ w, R w → ∀ vs S' H', Same S S' → Kn K B S0 S' σ H' F (st w) → PyA.rep K S' vs (x w) → Q vs H') → ta σ H Q
def EvLsW [Py α] (K : Fg) (ta : TA) (G : List Sl) (R : τ → Prop) (x : τ → List α) (st : τ → List Sl) : Prop :=
  ∀ B S0 S σ H F, Kn K B S0 S σ H F G → ∀ Q : List V → Hp → Prop, (∀ w, R w → ∀ vs S' H', Same S S' → Kn K B S0 S' σ H' F (st w) → RepL K S' vs (x w) → Q vs H') → ta σ H Q
end
def EvTW {τ : Type} (K : Fg) (tt : TT) (G : List Sl) (R : τ → Prop) (b : τ → Bool) (st : τ → List Sl) : Prop :=
  ∀ B S0 S σ H F, Kn K B S0 S σ H F G → ∀ Q : Bool → Hp → Prop, (∀ w, R w → ∀ S' H', Same S S' → Kn K B S0 S' σ H' F (st w) → Q (b w) H') → tt σ H Q
def spQ {α β : Type} [PyA α] [Py β] (K : Fg) (R : α → β → Prop) (pre : α → Prop) : Sp := fun vs H Q _ => ∃ (S : Hp) (a : α), Same S H ∧ PyA.rep K S vs a ∧ pre a ∧ ∀ y v S' H', Grow S H S' H' → R a y → Py.rep K S' v y → Q v H'
section
variable {K : Fg} {B S0 S1 S S' D : Hp} {σ : L2.St} {H H' : Hp} {F : Nat → List Addr} {G G' G1 G2 G3 : List Sl} {ta tb tc te : TE} {i j : Nat} {t u w : TS} {E : Ends} {tt : TT} {g : TG} {X : XK}
variable {α β γ τ τ2 : Type}
section
variable [Py α] [Py β] {R : τ → Prop} {x : τ → α} {st : τ → List Sl} {y : α}
theorem ew_callQ [PyA γ] {R : γ → β → Prop} {pre : γ → Prop} {a : γ} {t : TA} (ha : EvA K t G a G1) (hp : pre a) :
    EvW K (tCall (spQ K R pre) [] X t) G (fun w : β => R a w) (fun w => w) (fun _ => G1) := fun B S0 S σ H F kn Q q => by
  refine ha B S0 S σ H F kn _ fun vs S1 H1 e1 k1 r1 => ?_
  show spQ K R pre (vs ++ []) H1 _ X
  rw [List.append_nil]
  exact ⟨S1, a, k1.sub, r1, hp, fun y v S2 H2 g hR r2 => q y hR v S2 H2 (e1.trans g.s) (k1.grow g) r2⟩
theorem q_asgW (h : EvW K te G R x st) (k : ∀ w, R w → ∃ G2 ts, TgG K g (x w) (st w) G2 ts ∧ At K B S0 (u E) G2) : At K B S0 (tSeq (tAsg te g) u E) G := fun S σ H F kn =>
  h B S0 S σ H F kn _ fun w hw v S' H' e kn' r => by
    obtain ⟨G2, ts, tg, hat⟩ := k w hw
    exact tg.2 B S0 S' σ H' F v kn' r _ fun σ' k2 _ _ => hat S' σ' H' F k2
theorem q_setW (i : Nat) (h : EvW K te G R x st) (hi : ∀ w, ((st w)[i]?).isSome = true) (k : ∀ w, R w → At K B S0 (u E) ((st w).set i (.im (x w)))) : At K B S0 (tSeq (tAsg te (gName i)) u E) G :=
  q_asgW h fun w hw => ⟨_, _, tg_name (hi w), k w hw⟩
end
end
section
variable {P : Program} {w : World} {K : Fg} {mg : Str → Option Value} {base : Heap} {α β : Type} [Sls α] [Py β]
theorem def_spQ {x : Str} {st : Stmt} {N ps : List Str} {k : Nat} {R : α → β → Prop} {pre : α → Prop} (D : Def K mg x st ps) (S : FnScope N ps (defScope st)) (hn : PyA.n α = ps.length)
    (h : ∀ (fa : Addr) (cdv : Value) (A : Around) (outer : List Env) (s : Shared) (H : Hp) (E : XK), Room k (A.deeper (envOfC x (defScope st) s.heap.objs.size fa cdv)) →
      ∃ t, PSs (cxOf CX0 P w K mg base N x (defScope st) fa cdv A outer s H E).nox (defBody st) t ∧
        ∀ (a : α), pre a → ∀ (B S0 : Hp) (Q : VK), (∀ G' y, R a y → RT K B S0 Q y G') → At K B S0 (t { nx := fun _ H' => Q .non H', rt := Q }) (Sls.sls a ++ List.replicate (N.length - PyA.n α) .no)) :
    Cal P w K mg base (k + 1) x ps (spQ K R pre) := by
  obtain ⟨fa, fd, m, F, b⟩ := D.ex
  refine ⟨fa, fd, m, F.ok S (fun vs H Q E ⟨S, a, _, r, _⟩ => (PyA.len r).trans hn) fun cdv A outer s H vs Q E hr ⟨S', a, e, r, hp, q⟩ => ?_, F.kp, b⟩
  obtain ⟨t, h1, h2⟩ := h fa cdv A outer s H E hr
  refine ⟨t, h1, h2 a hp H S' Q (fun G' y hR S1 σ1 H1 F1 v k1 r1 => ?_) S' _ H _ (start_kn e r)⟩
  exact q y v S1 H1 ⟨k1.s0, k1.sub, k1.keep, k1.clean⟩ hR r1
end
end GL
namespace GL
open PySem PySem.Spec PyProof.Rows L2
section
variable {K : Fg} {G : List Sl} {te : TE} {α τ : Type} [Py α]
theorem EvW.dat [ToD α] {R : τ → Prop} {x : τ → α} {st : τ → List Sl} (h : EvW K te G R x st) : EvW K te G R (fun w => ToD.dat (x w)) st := fun B S0 S σ H F k Q q => h B S0 S σ H F k Q fun w hw v S' H' e k' r => q w hw v S' H' e k' (ToD.of r)
end
end GL
namespace GL
open PySem PySem.Spec PyProof.Rows L2
section
variable {K : Fg} {G : List Sl} {te : TE} {τ : Type} {R : τ → Prop} {x : τ → Bool} {st : τ → List Sl} {c : Bool}
end
end GL
namespace GL
open PySem PySem.Spec PyProof.Rows L2
section
variable {K : Fg} {B S0 S1 S S' D : Hp} {σ : L2.St} {H H' : Hp} {F : Nat → List Addr} {G G' G1 G2 : List Sl} {ta tb te : TE} {t u : TS} {E : Ends} {i j : Nat} {Y : XC → Addr} {α : Type}
structure Wd where
  w : Str
  n : List Int
instance : Py Wd := ⟨fun K S v x => ∃ p, v = .ref p ∧ SqT K S p (.str x.w :: x.n.map V.int), fun e ⟨p, h1, h2⟩ => ⟨p, h1, seqT e h2⟩⟩
instance : Inhabited Wd := ⟨⟨Str.empty, []⟩⟩
end
end GL
namespace GL
open PySem PySem.Spec PyProof.Rows L2
class NoLF (α : Type) [Py α] [PyF α] : Prop where
  go : ∀ {K : Fg} {D S : Hp} {p : Addr} {us : List V} {o : HO} {v : V} {x : α}, D p = some o → S p = some (.lst us) → PyF.repF K D S v x → PyF.repF K D (del S p) v x
section
variable {α β γ : Type} [Py α] [Py β] [Py γ]
instance : NoLF Int := ⟨fun _ _ h => h⟩
instance : NoLF Bool := ⟨fun _ _ h => h⟩
instance : NoLF Str := ⟨fun _ _ h => h⟩
instance : NoLF Unit := ⟨fun _ _ h => h⟩
instance [NoL α] : NoLF (Tp α) := ⟨fun {K D S p us o v x} _ h r => (inferInstance : NoL (Tp α)).go (v := v) (x := x) h r⟩
instance [NoL α] : NoLF (List α) := ⟨fun {K D S p us o v x} hd hs ⟨⟨q, vs, h1, h2, h3⟩, q', h4, h5⟩ => ⟨⟨q, vs, h1, by
  have ne : q ≠ p := fun z => by
    rw [h1] at h4
    cases h4
    rw [z, hd] at h5
    cases h5
  rw [del_ne ne]
  exact h2, nlAll hs h3⟩, q', h4, h5⟩⟩
instance [PyF α] [PyF β] [NoLF α] [NoLF β] : NoLF (α × β) := ⟨fun {K D S p us o v x} hd hs ⟨a, b, c, h1, h2, h3, h4⟩ => ⟨a, b, c, h1, nlT hs h2, NoLF.go hd hs h3, NoLF.go hd hs h4⟩⟩
instance [PyF α] [PyF β] [PyF γ] [NoLF α] [NoLF β] [NoLF γ] : NoLF (T3 α β γ) := ⟨fun {K D S p us o v x} hd hs ⟨a, b, c, d, h1, h2, h3, h4, h5⟩ => ⟨a, b, c, d, h1, nlT hs h2, NoLF.go hd hs h3, NoLF.go hd hs h4, NoLF.go hd hs h5⟩⟩
end
section
variable {K : Fg} {B S0 S1 S S' D : Hp} {σ : L2.St} {H H' : Hp} {F : Nat → List Addr} {G G' G1 G2 : List Sl} {ta tb te : TE} {t u : TS} {E : Ends} {Ex : XK} {i j : Nat} {α β δ : Type}
def EvAL [Py δ] [PyA α] (K : Fg) (i : Nat) (d : List δ) (ta : TA) (G : List Sl) (x : α) (G' : List Sl) : Prop :=
  ∀ B S0 S σ H F, Kn K B S0 S σ H F G → ∀ Q : List V → Hp → Prop, (∀ vs S' H', Same S S' → Kn K B S0 S' σ H' F G' → (∀ p us, σ[i]? = some (some (.ref p)) → RepL K S' us d → S' p = none → PyA.rep K (upd S' p (.lst us)) vs x) → Q vs H') → ta σ H Q
end
end GL
namespace GL
open PySem PySem.Spec PyProof.Rows L2
def EvMv {α τ : Type} [Py α] (K : Fg) (te : TE) (G : List Sl) (R : τ → Prop) (x : τ → α) (st : τ → List Sl) : Prop :=
  ∀ B S0 S σ H F, Kn K B S0 S σ H F G → ∀ Q : VK, (∀ w, R w → ∀ v S' H' F', Same S S' → Kn K B S0 S' σ H' F' (st w) → Py.rep K S' v (x w) → Q v H') → te σ H Q
def EvTMv {τ : Type} (K : Fg) (tt : TT) (G : List Sl) (R : τ → Prop) (b : τ → Bool) (st : τ → List Sl) : Prop :=
  ∀ B S0 S σ H F, Kn K B S0 S σ H F G → ∀ Q : Bool → Hp → Prop, (∀ w, R w → ∀ S' H' F', Same S S' → Kn K B S0 S' σ H' F' (st w) → Q (b w) H') → tt σ H Q
def spO2 {ω η α β : Type} [Own ω] [Own η] [PyA α] [Py β] (K : Fg) (R : ω → η → α → β → ω → η → Prop) (pre : ω → η → α → Prop) : Sp := fun vs H Q _ => ∃ (S : Hp) (v0 v1 : V) (ws : List V) (ps qs : List Addr) (z : ω) (y : η) (a : α), vs = v0 :: v1 :: ws ∧ Same S H ∧ Own.own K S H v0 ps z ∧ Own.own K S H v1 qs y ∧
  (∀ p ∈ ps, S p = none ∧ ∃ o, H p = some o) ∧ (∀ p ∈ qs, S p = none ∧ ∃ o, H p = some o) ∧ (∀ p ∈ ps, p ∉ qs) ∧ PyA.rep K S ws a ∧ pre z y a ∧
  ∀ v S' H' ps' qs' b z' y', R z y a b z' y' → Same S S' → Same S' H' → (∀ p o, p ∉ ps → p ∉ qs → H p = some o → H' p = some o) → (∀ p o, p ∉ ps → p ∉ qs → H p = some o → S' p = S p) →
    (∀ p ∈ ps', S' p = none ∧ (∃ o, H' p = some o) ∧ (p ∈ ps ∨ p ∈ qs ∨ H p = none)) → (∀ p ∈ qs', S' p = none ∧ (∃ o, H' p = some o) ∧ (p ∈ ps ∨ p ∈ qs ∨ H p = none)) → (∀ p ∈ ps', p ∉ qs') →
    Own.own K S' H' v0 ps' z' → Own.own K S' H' v1 qs' y' → Py.rep K S' v b → Q v H'
section
variable {K : Fg} {B S0 S1 S S' D : Hp} {σ : L2.St} {H H' : Hp} {F : Nat → List Addr} {G G' G1 G2 G3 : List Sl} {ta tb tc te : TE} {i j : Nat} {t : TA} {u w : TS} {tt uu : TT} {E : Ends} {g : TG} {X : XK}
section
variable {α β τ : Type} [Py α] [Py β] {R : τ → Prop} {x : τ → α} {st : τ → List Sl} {b : τ → Bool} {y : α}
end
section
variable {ω η : Type} [Own ω] [Own η] {z z' z1 : ω} {y y' y1 : η}
end
end
section
variable {P : Program} {w : World} {K : Fg} {mg : Str → Option Value} {base : Heap} {ω η α β : Type} [Own ω] [Anch ω] [Own η] [Anch η] [Sls α] [Py β] {S H : Hp}
end
def NewC {C : Addr} (g : Prog) (st : Stand) (h : Int) (z : Car C) : Prop := ∃ a w s f b, z = Car.mk a w s f b g st h 0 [] [] 0 none false Dct.emp 0 Dct.emp
section
variable {C : Addr} {K : Fg} {B S0 S1 S S' : Hp} {σ : L2.St} {H H1 H' : Hp} {F : Nat → List Addr} {G G' G1 G2 : List Sl} {i j ck i1 i2 : Nat} {t : TA} {u : TS} {E : Ends} {Ex : XK} {g : Prog} {st : Stand} {h : Int} {pv sv : V}
end
section
variable {C : Addr} {K : Fg} {G : List Sl} {i : Nat} {Ex : XK} {m : Str} {β : Type} [Py β] {z : Car C} {f : Car C → Unit → β × Car C} {pre : Car C → Unit → Prop}
end
end GL
namespace GL
open PySem PySem.Spec PyProof.Rows L2
def rAbs : List V → Hp → VK → Prop := fun xs H Q => ∃ i, xs = [.int i] ∧ Q (.int (if i < 0 then -i else i)) H
def absI (n : Int) : Int := if n < 0 then -n else n
theorem call_absI {X : Cx} : CallR X (.builtin "abs") rAbs := call_abs
def rIns : V → List V → Hp → VK → Prop := fun x vs H Q => ∃ (l : Addr) (xs : List V) (i : Int) (y : V), x = .ref l ∧ vs = [.int i, y] ∧ H l = some (.lst xs) ∧ xs.length < sizeLine ∧ 0 ≤ i ∧ i < 2 ^ 63 ∧
    Q .non (upd H l (.lst (xs.take i.toNat ++ [y] ++ xs.drop i.toNat)))
theorem mt_ins {X : Cx} : MtR X "list.insert" rIns := mt_insert
section
variable {K : Fg} {B S0 S1 S S' D : Hp} {σ : L2.St} {H H' : Hp} {F : Nat → List Addr} {G G' G1 G2 : List Sl} {ta tb te : TE} {i : Nat} {u : TS} {E : Ends} {α : Type} [Py α]
theorem ev_abs {n : Int} (h : EvX K ta G n G1) : EvX K (tCB rAbs (tCons ta tNil)) G (absI n) G1 := fun B S0 S σ H F k Q q =>
  h B S0 S σ H F k _ fun v S1 H1 e1 k1 r1 => ⟨n, by rw [show v = .int n from r1], q _ S1 H1 e1 k1 rfl⟩
def insL (xs : List α) (n : Int) (x : α) : List α := xs.take n.toNat ++ [x] ++ xs.drop n.toNat
theorem q_ins {xs xs' : List α} {x : α} {n : Int} (hl : G[i]? = some (.ow xs)) (hn : EvX K tb G n G1) (h : EvX K te G1 x G2) (hl2 : G2[i]? = some (.ow xs')) (hz : xs'.length < sizeLine) (h0 : 0 ≤ n ∧ n ≤ 1000000) (k : ∀ y, y = insL xs' n x → At K B S0 (u E) (G2.set i (.ow y))) :
    At K B S0 (tSeq (tDrop (tBM K "list" rIns (tVar i) (tCons tb (tCons te tNil)))) u E) G := fun S σ H F kn => by
  obtain ⟨p, vs, h1, h2, h3, h4⟩ := own_list kn hl
  refine ⟨.ref p, h1, .inl ⟨rfl, _, SqL.of h3⟩, hn B S0 S σ H F kn _ fun w S1 H1 e1 k1 r1 => h B S0 S1 σ H1 F k1 _ fun v S2 H2 e2 k2 r2 => ?_⟩
  obtain ⟨p', vs', h1', h2', h3', h4'⟩ := own_list k2 hl2
  rw [h1] at h1'
  cases h1'
  refine ⟨p, vs', n, v, rfl, by rw [show w = .int n from r1], h3', by rw [h4'.len]; exact hz, h0.1, by omega, k _ rfl S2 σ _ F (own_listUpd k2 h1 h2' ?_)⟩
  unfold insL
  exact ((h4'.take n.toNat).snoc r2).app (h4'.drop n.toNat)
end
theorem insL_len {α : Type} (xs : List α) (n : Int) (x : α) : (insL xs n x).length = xs.length + 1 := by
  unfold insL
  rw [List.length_append, List.length_append, List.length_take, List.length_drop, List.length_singleton]
  omega
theorem mem_insL {α : Type} {xs : List α} {n : Int} {x y : α} (h : y ∈ insL xs n x) : y = x ∨ y ∈ xs := by
  unfold insL at h
  simp only [List.mem_append, List.mem_singleton] at h
  rcases h with (h | h) | h
  · exact .inr (List.mem_of_mem_take h)
  · exact .inl h
  · exact .inr (List.mem_of_mem_drop h)
section
variable {K : Fg} {G G1 G2 : List Sl} {ta tb : TE} {α β γ : Type} [Py α] [Py β] [Py γ]
def pixI (x : α × α) (n : Int) : α := if n = 0 then x.1 else x.2
def t4i (x : T4 α α β γ) (n : Int) : α := if n = 0 then x.a else x.b
def t4j (x : T4 α γ β β) (n : Int) : β := if n = 2 then x.c else x.d
theorem ev_pixI {x : α × α} {n : Int} (ha : EvX K ta G x G1) (hb : EvX K tb G1 n G2) (h : 0 ≤ n ∧ n < 2) : EvX K (tOp (rIxT K) ta tb) G (pixI x n) G2 := fun B S0 S σ H F k Q q =>
  ha B S0 S σ H F k _ fun v S1 H1 e1 k1 r1 => hb B S0 S1 σ H1 F k1 _ fun w S2 H2 e2 k2 r2 => by
    obtain ⟨p, a, b, rfl, hp, ra, rb⟩ := Py.mono e2 r1
    rcases (show n = 0 ∨ n = 1 by omega) with e | e
    · subst e
      exact ⟨p, _, 0, a, rfl, r2, seqT k2.sub hp, atI_nat (j := 0) rfl, q _ S2 H2 (e1.trans e2) k2 ra⟩
    · subst e
      exact ⟨p, _, 1, b, rfl, r2, seqT k2.sub hp, atI_nat (j := 1) rfl, q _ S2 H2 (e1.trans e2) k2 rb⟩
theorem ev_t4i {x : T4 α α β γ} {n : Int} (ha : EvX K ta G x G1) (hb : EvX K tb G1 n G2) (h : 0 ≤ n ∧ n < 2) : EvX K (tOp (rIxT K) ta tb) G (t4i x n) G2 := fun B S0 S σ H F k Q q =>
  ha B S0 S σ H F k _ fun v S1 H1 e1 k1 r1 => hb B S0 S1 σ H1 F k1 _ fun w S2 H2 e2 k2 r2 => by
    obtain ⟨p, a, b, c, d, rfl, hp, ra, rb, rc, rd⟩ := Py.mono e2 r1
    rcases (show n = 0 ∨ n = 1 by omega) with e | e
    · subst e
      exact ⟨p, _, 0, a, rfl, r2, seqT k2.sub hp, atI_nat (j := 0) rfl, q _ S2 H2 (e1.trans e2) k2 ra⟩
    · subst e
      exact ⟨p, _, 1, b, rfl, r2, seqT k2.sub hp, atI_nat (j := 1) rfl, q _ S2 H2 (e1.trans e2) k2 rb⟩
theorem ev_t4j {x : T4 α γ β β} {n : Int} (ha : EvX K ta G x G1) (hb : EvX K tb G1 n G2) (h : 2 ≤ n ∧ n < 4) : EvX K (tOp (rIxT K) ta tb) G (t4j x n) G2 := fun B S0 S σ H F k Q q =>
  ha B S0 S σ H F k _ fun v S1 H1 e1 k1 r1 => hb B S0 S1 σ H1 F k1 _ fun w S2 H2 e2 k2 r2 => by
    obtain ⟨p, a, b, c, d, rfl, hp, ra, rb, rc, rd⟩ := Py.mono e2 r1
    rcases (show n = 2 ∨ n = 3 by omega) with e | e
    · subst e
      exact ⟨p, _, 2, c, rfl, r2, seqT k2.sub hp, atI_nat (j := 2) rfl, q _ S2 H2 (e1.trans e2) k2 rc⟩
    · subst e
      exact ⟨p, _, 3, d, rfl, r2, seqT k2.sub hp, atI_nat (j := 3) rfl, q _ S2 H2 (e1.trans e2) k2 rd⟩
end
section
variable {K : Fg} {B S0 : Hp} {G G1 : List Sl} {t : TA} {u : TS} {E : Ends} {Ex : XK} {α β : Type} [Py α] [NoL α] [PyA β] {f : β → List α} {pre : β → Prop} {a : β}
theorem q_ownN (i : Nat) (ha : EvA K t G a G1) (hp : pre a) (hi : G1[i]?.isSome = true) (k : ∀ y, y = f a → At K B S0 (u E) (G1.set i (.ow y))) : At K B S0 (tSeq (tAsg (tCall (spN K f pre) [] Ex t) (gName i)) u E) G := fun S σ H F kn =>
  ha B S0 S σ H F kn _ fun vs S1 H1 e1 k1 r1 => by
    show spN K f pre (vs ++ []) H1 _ Ex
    rw [List.append_nil]
    refine ⟨S1, a, k1.sub, r1, hp, fun v S2 H2 g r2 => ?_⟩
    obtain ⟨⟨p, ws, rfl, h2, h3⟩, q, eq, hq⟩ := r2
    cases eq
    have hS1 : S1 p = none := (k1.free hq).1
    have g' : Grow S1 H1 (del S2 p) H2 := by
      refine ⟨fun b o e => ?_, fun b o e => ?_, g.h, fun b o e => ?_⟩
      · have z : b ≠ p := fun z => by rw [z, hS1] at e; cases e
        rw [del_ne z]
        exact g.s b o e
      · by_cases z : b = p
        · rw [z, del_self] at e
          cases e
        · rw [del_ne z] at e
          exact g.sub b o e
      · have z : b ≠ p := fun z => by rw [z, hq] at e; cases e
        rw [del_ne z]
        exact g.cl b o e
    have hH2 : H2 p = some (.lst ws) := g.sub _ _ h2
    exact k _ rfl (del S2 p) _ H2 _ ((k1.grow g').setOwn (v := .ref p) ⟨p, ws, rfl, rfl, hH2, nlAll h2 h3⟩ hi del_self (k1.free hq).2.1 ⟨_, hH2⟩ (k1.free hq).2.2)
end
end GL
namespace PyProof.Rows
open PySem PySem.Spec
section
variable {prog : Program} {w : World} {A : Around} {E : Value → Shared → Prop} {s : Shared}
theorem collect_tupN {l : Addr} {vs : List Value} {Q : List Value → Shared → Prop} (ht : IsTup s.heap l vs.toArray) (hz : vs.length ≤ sizeLine)
    (hQ : Q vs { s with heap := (s.heap.push (seqObj "list" #[] 0)).update s.heap.objs.size (Obj.mapSeq (· ++ vs.toArray)) }) : wpAny (model prog w) A (collect (.ref l)) Q E s := by
  obtain ⟨ob, hob, hcl, m, hdt⟩ := id ht
  have hob2 : (s.heap.push (seqObj "list" #[] 0)).get? l = some ob := Heap.get?_push_of_some _ hob
  have hnew : (s.heap.push (seqObj "list" #[] 0)).get? s.heap.objs.size = some (seqObj "list" #[] 0) := Heap.get?_push_size _ rfl
  unfold collect; refine wpAny_bind (wpAny_runValue (codeAny_builtin entry_proto_collect' ?_))
  refine (show wpAny _ _ (do again (.builtin "list.__iadd__" ⟨[← newList [], .ref l], []⟩)) _ _ s from ?_)
  refine wpAny_bind (wpAny_newList (wpAny_pure ⟨Code.quiet_builtin _ (by decide +kernel), codeAny_builtin entry_list_iadd' (?_ : wpAny _ _ (Builtin.List.listExtendWith (.ref s.heap.objs.size) (.ref l) (.ref s.heap.objs.size)) _ _ { s with heap := s.heap.push (seqObj "list" #[] 0) })⟩))
  unfold Builtin.List.listExtendWith; refine wpAny_bind (wpAny_typeOf (T := "tuple") ⟨ob, hob2, hcl⟩ ?_)
  have htt : (Value.type "tuple" == Value.type "tuple") = true := by rfl
  rw [if_pos (by rw [htt]; simp)]; refine wpAny_bind (listItems_at hob2 hdt (wpAny_bind (listItems_at (xs := #[]) (n := 0) hnew rfl ?_)))
  rw [if_neg (by simp)]; refine wpAny_bind (listUpdate_at (xs := #[]) (n := 0) hnew rfl ?_ (Nat.zero_le _) (by show (#[] ++ vs.toArray).size ≤ sizeLine + 1; simp only [Array.size_append, List.size_toArray, List.length_nil]; omega))
  refine wpAny_pure (show wpAny (model prog w) A (do let o ← load s.heap.objs.size; match o.data with | .seq xs _ => pure xs.toList | _ => unsupported "internal:collect") Q E { s with heap := (s.heap.push (seqObj "list" #[] 0)).update s.heap.objs.size (Obj.mapSeq (· ++ vs.toArray)) } from ?_)
  refine wpAny_bind (wpAny_load (get?_update_seq hnew _) (show wpAny _ _ (pure ((#[] : Array Value) ++ vs.toArray).toList) Q E _ from ?_))
  rw [show ((#[] : Array Value) ++ vs.toArray).toList = vs by simp]; exact wpAny_pure hQ
theorem sorted_tupN {l : Addr} {vs : List Value} {ns : List Int} {Q : Value → Shared → Prop} (ht : IsTup s.heap l vs.toArray) (hi : IntsAre vs ns) (hz : vs.length ≤ sizeLine)
    (hQ : ∀ out : List Value, SrtO.Srtd SrtO.ltIv out → SrtO.Stb SrtO.ltIv out vs → Q (.ref (s.heap.objs.size + 1)) { s with heap := sortedAll s.heap vs out.toArray }) : wpAny (model prog w) A (call (.builtin "sorted") [.ref l]) Q E s := by
  refine Calls.call_function_entry kind_sorted plain_sorted entry_sorted (args_sorted1 _) ?_
  unfold Builtin.«sorted»; refine wpAny_bind (m := checkCount "sorted" 1 1 _) (wpAny_pure ?_)
  refine wpAny_bind (collect_tupN ht hz (wpAny_bind (wpAny_newList ?_ hz)))
  generalize eh : (s.heap.push (seqObj "list" #[] 0)).update s.heap.objs.size (Obj.mapSeq (· ++ vs.toArray)) = h1
  have hs1 : h1.objs.size = s.heap.objs.size + 1 := by rw [← eh, Heap.size_update, size_push']
  have ho1 : (h1.push (seqObj "list" vs.toArray 0)).get? (s.heap.objs.size + 1) = some (seqObj "list" vs.toArray 0) := by rw [← hs1]; exact Heap.get?_push_size _ rfl
  refine (show wpAny _ _ _ _ _ { s with heap := h1.push (seqObj "list" vs.toArray 0) } from ?_)
  rw [hs1]; refine wpAny_bind (wpAny_holding (wpAny_call_entry slot_list_sort ⟨_, ho1, rfl⟩ entry_list_sort (SrtO.list_sort_ord SrtO.swo_int ho1 hz (fun h2 => SrtO.ints_sortable hi h2) fun out a1 a2 => ⟨_, rfl, wpAny_pure ⟨_, rfl, ?_⟩⟩) (args_list_sort _)))
  have q := hQ out a1 a2
  unfold sortedAll at q
  rw [eh] at q; exact q
end
end PyProof.Rows
namespace L2
open PySem PySem.Spec PyProof.Rows
section
variable {X : Cx}
def rSortedTN (K : PySem.W.Frag) : List V → Hp → VK → Prop := fun vs H Q => ∃ (a : Addr) (ns : List Int), vs = [V.ref a] ∧ SqT K H a (ns.map V.int) ∧
  ∀ (ms : List Int) (p : Addr), ms.Perm ns → ms.Pairwise (· ≤ ·) → H p = none → Q (.ref p) (upd H p (.lst (ms.map V.int)))
theorem cr_sortedTN : CallR X (.builtin "sorted") (rSortedTN X.K) := by
  intro pins s σ H vs us Q I r h
  obtain ⟨a, ns, rfl, ht, q⟩ := h
  obtain ⟨its, rv, htup, hz⟩ := I.tuple ht
  rw [Vals.ref1 r]
  have hi := rv.ints
  refine PyProof.Rows.sorted_tupN htup hi (by rw [← rv.length]; exact hz) fun out a1 a2 => ?_
  obtain ⟨k1, k2, k3⟩ := SrtO.ints_out hi a1 a2
  obtain ⟨ep, hat⟩ := PyProof.Rows.sortedAll_at s.heap its out.toArray
  have hlen : ((out.map SrtO.iv).map V.int).length ≤ sizeLine := by rw [List.length_map, k2.length_eq]; rw [List.length_map] at hz; exact hz
  exact ⟨.ref _, upd H _ (.lst ((out.map SrtO.iv).map V.int)), I.laid (t' := s.toks) (fun _ _ => PyProof.Rows.sortedAll_old) (Nat.le_succ _) ⟨hlen, out, ep, vals_of_ints k1, hat⟩, rfl, q _ _ k2 k3 (I.hok.fresh (Nat.le_succ _))⟩
def tGlob (mg : Str → Option Value) (x : Str) : TE := fun _ H Q => ∃ a, mg x = some (.ref a) ∧ Q (.ref a) H
theorem pe_globT {x : Str} {pos : Pos} (hg : Gl X x) (hd : (x == ("__debug__" : Str)) = false := by decide) : PE X (.Name x pos) (tGlob X.mg x) := ⟨fun pins s σ H Q I ⟨a, hm, q⟩ => (pe_glob (v := .ref a) hg hm rfl hd).run pins s σ H Q I q⟩
end
end L2
namespace GL
open PySem PySem.Spec PyProof.Rows L2
section
variable {K : Fg} {B S0 S1 S S' D : Hp} {σ : L2.St} {H H' : Hp} {F : Nat → List Addr} {G G' G1 G2 : List Sl} {ta tb te : TE} {i : Nat} {u : TS} {E : Ends} {α β γ δ : Type} [Py α] [Py β] [Py γ] [Py δ]
theorem el_sortedTN {xs : Tp Int} (h : EvX K ta G xs G1) : EvL K (tCB (rSortedTN K) (tCons ta tNil)) G (srt xs.l) G1 := fun B S0 S σ H F k Q q =>
  h B S0 S σ H F k _ fun v S1 H1 e1 k1 r1 => by
    obtain ⟨p, vs, rfl, hp, hr⟩ := r1
    rw [hr.ints] at hp
    refine ⟨p, xs.l, rfl, seqT k1.sub hp, fun ns l pm so hl => ?_⟩
    rw [srt_eq pm so]
    exact mk_list k1 hl (RepL.of_ints _) fun p vs S2 H2 e2 k2 a b c d r => q p vs S2 H2 (e1.trans e2) k2 a b c d r
theorem ev_4a {w : T4 α β γ δ} (ha : EvX K ta G w G1) : EvX K (tOp (rIxT K) ta (tC (.int 0))) G w.a G1 := fun B S0 S σ H F k Q q =>
  ha B S0 S σ H F k _ fun v S1 H1 e1 k1 r1 => by
    obtain ⟨p, a, b, c, d, rfl, hp, h1, h2, h3, h4⟩ := r1
    exact ⟨p, _, 0, a, rfl, rfl, seqT k1.sub hp, atI_nat (j := 0) rfl, q a S1 H1 e1 k1 h1⟩
theorem ev_4b {w : T4 α β γ δ} (ha : EvX K ta G w G1) : EvX K (tOp (rIxT K) ta (tC (.int 1))) G w.b G1 := fun B S0 S σ H F k Q q =>
  ha B S0 S σ H F k _ fun v S1 H1 e1 k1 r1 => by
    obtain ⟨p, a, b, c, d, rfl, hp, h1, h2, h3, h4⟩ := r1
    exact ⟨p, _, 1, b, rfl, rfl, seqT k1.sub hp, atI_nat (j := 1) rfl, q b S1 H1 e1 k1 h2⟩
theorem ev_4c {w : T4 α β γ δ} (ha : EvX K ta G w G1) : EvX K (tOp (rIxT K) ta (tC (.int 2))) G w.c G1 := fun B S0 S σ H F k Q q =>
  ha B S0 S σ H F k _ fun v S1 H1 e1 k1 r1 => by
    obtain ⟨p, a, b, c, d, rfl, hp, h1, h2, h3, h4⟩ := r1
    exact ⟨p, _, 2, c, rfl, rfl, seqT k1.sub hp, atI_nat (j := 2) rfl, q c S1 H1 e1 k1 h3⟩
theorem ev_4d {w : T4 α β γ δ} (ha : EvX K ta G w G1) : EvX K (tOp (rIxT K) ta (tC (.int 3))) G w.d G1 := fun B S0 S σ H F k Q q =>
  ha B S0 S σ H F k _ fun v S1 H1 e1 k1 r1 => by
    obtain ⟨p, a, b, c, d, rfl, hp, h1, h2, h3, h4⟩ := r1
    exact ⟨p, _, 3, d, rfl, rfl, seqT k1.sub hp, atI_nat (j := 3) rfl, q d S1 H1 e1 k1 h4⟩
theorem tg_t4 {x : T4 α β γ δ} {g1 g2 g3 g4 : TG} {G3 G4 : List Sl} {t1 t2 t3 t4 : List Nat} (h1 : TgG K g1 x.a G G1 t1) (h2 : TgG K g2 x.b G1 G2 t2) (h3 : TgG K g3 x.c G2 G3 t3) (h4 : TgG K g4 x.d G3 G4 t4) :
    TgG K (gTup K 4 (gCons g1 (gCons g2 (gCons g3 (gCons g4 gNil))))) x G G4 (t1 ++ (t2 ++ (t3 ++ t4))) := ⟨fun j hj => (((h4.1 j (notL (notL (notL hj).2).2).2).trans (h3.1 j (notL (notL (notL hj).2).2).1)).trans (h2.1 j (notL (notL hj).2).1)).trans (h1.1 j (notL hj).1), fun B S0 S σ H F v k r Q q => by
  obtain ⟨p, a, b, c, d, rfl, hp, ra, rb, rc, rd⟩ := r
  refine ⟨p, [a, b, c, d], rfl, seqT k.sub hp, rfl, a, [b, c, d], rfl, h1.2 B S0 S σ H F a k ra _ fun σ1 k1 o1 w1 => ⟨b, [c, d], rfl, h2.2 B S0 S σ1 H F b k1 rb _ fun σ2 k2 o2 w2 => ⟨c, [d], rfl, h3.2 B S0 S σ2 H F c k2 rc _ fun σ3 k3 o3 w3 => ⟨d, [], rfl, h4.2 B S0 S σ3 H F d k3 rd _ fun σ4 k4 o4 w4 =>
    ⟨rfl, q σ4 k4 (fun j hj => (((o4 j (notL (notL (notL hj).2).2).2).trans (o3 j (notL (notL (notL hj).2).2).1)).trans (o2 j (notL (notL hj).2).1)).trans (o1 j (notL hj).1)) fun vs hv => ?_⟩⟩⟩⟩⟩
  rw [w4 vs fun t ht => hv t (List.mem_append_right _ (List.mem_append_right _ (List.mem_append_right _ ht))), w3 vs fun t ht => hv t (List.mem_append_right _ (List.mem_append_right _ (List.mem_append_left _ ht))), w2 vs fun t ht => hv t (List.mem_append_right _ (List.mem_append_left _ ht)), w1 vs fun t ht => hv t (List.mem_append_left _ ht)]⟩
theorem qg_t4 {w : T4 α β γ δ} (i j l m : Nat) (h : EvX K te G w G1) (hi : G1[i]?.isSome = true) (hj : (G1.set i (.im w.a))[j]?.isSome = true) (hl : ((G1.set i (.im w.a)).set j (.im w.b))[l]?.isSome = true) (hm : (((G1.set i (.im w.a)).set j (.im w.b)).set l (.im w.c))[m]?.isSome = true)
    (k : ∀ a b c d, a = w.a → b = w.b → c = w.c → d = w.d → At K B S0 (u E) ((((G1.set i (.im a)).set j (.im b)).set l (.im c)).set m (.im d))) :
    At K B S0 (tSeq (tAsg te (gTup K 4 (gCons (gName i) (gCons (gName j) (gCons (gName l) (gCons (gName m) gNil)))))) u E) G := q_asg h (tg_t4 (tg_name hi) (tg_name hj) (tg_name hl) (tg_name hm)) (k _ _ _ _ rfl rfl rfl rfl)
abbrev RSt := T4 Int Int (Tp Int) (Tp Int)
abbrev SPart := Sum Int (Tp Int)
instance : Inhabited SPart := ⟨.inl 0⟩
def sl4 (x : RSt) : List SPart := [.inl x.a, .inl x.b, .inr x.c, .inr x.d]
theorem el_listS {x : RSt} (h : EvX K ta G x G1) : EvL K (tCB (rListS K) (tCons ta tNil)) G (sl4 x) G1 := fun B S0 S σ H F k Q q =>
  h B S0 S σ H F k _ fun v S1 H1 e1 k1 r1 => by
    obtain ⟨p, a, b, c, d, rfl, hp, h1, h2, h3, h4⟩ := r1
    refine ⟨p, _, rfl, .inr (seqT k1.sub hp), fun l hl => ?_⟩
    exact mk_list k1 hl (show RepL K S1 [a, b, c, d] (sl4 x) from ⟨h1, h2, h3, h4, True.intro⟩) fun p vs S2 H2 e2 k2 a b c d r => q p vs S2 H2 (e1.trans e2) k2 a b c d r
theorem rep4 {ε : Type} [Py ε] {vs : List V} {x y z w : ε} (h : RepL K S vs [x, y, z, w]) : ∃ a b c d, vs = [a, b, c, d] ∧ Py.rep K S a x ∧ Py.rep K S b y ∧ Py.rep K S c z ∧ Py.rep K S d w := by
  have hl := h.len
  rcases vs with _ | ⟨a, _ | ⟨b, _ | ⟨c, _ | ⟨d, _ | ⟨e, l⟩⟩⟩⟩⟩ <;> simp only [List.length_cons, List.length_nil] at hl <;> first | omega | skip
  exact ⟨a, b, c, d, rfl, h.1, h.2.1, h.2.2.1, h.2.2.2.1⟩
theorem EvX.st {xs : Tp SPart} (x : RSt) (h : EvX K te G xs G1) (e : xs.l = sl4 x) : EvX K te G x G1 := fun B S0 S σ H F k Q q => h B S0 S σ H F k Q fun v S' H' e1 k' r => q v S' H' e1 k' (by
  obtain ⟨p, vs, h1, h2, h3⟩ := r
  rw [e] at h3
  obtain ⟨a, b, c, d, rfl, r1, r2, r3, r4⟩ := rep4 h3
  exact ⟨p, a, b, c, d, h1, h2, r1, r2, r3, r4⟩)
def firstS : RSt := ⟨0, 0, ⟨[]⟩, ⟨[]⟩⟩
structure KTup (K : Fg) (a : Addr) (xs : List V) : Prop where
  at_ : ∃ (o : Obj) (its : Array Value) (n : Nat), K.lookup a = some o ∧ o.cls = .type "tuple" ∧ o.data = .seq its n ∧ its.size ≤ sizeLine ∧ Vals xs its.toList
def TFirst (K : Fg) (mg : Str → Option Value) (x : Str) : Prop := ∃ a e1 e2, mg x = some (.ref a) ∧ KTup K a [.int 0, .int 0, .ref e1, .ref e2] ∧ KTup K e1 [] ∧ KTup K e2 []
theorem ev_first {mg : Str → Option Value} {x : Str} (h : TFirst K mg x) : EvX K (tGlob mg x) G firstS G := fun B S0 S σ H F k Q q => by
  obtain ⟨a, e1, e2, hm, ha, h1, h2⟩ := h
  exact ⟨a, hm, q _ S H (Same.refl _) k ⟨a, .int 0, .int 0, .ref e1, .ref e2, rfl, .inr ha.at_, rfl, rfl, ⟨e1, [], rfl, .inr h1.at_, True.intro⟩, ⟨e2, [], rfl, .inr h2.at_, True.intro⟩⟩⟩
theorem tfirst_mk {mg : Str → Option Value} {x : Str} {a e f : Addr} {t1 t2 : Tok} {d1 d2 d3 : Option Addr} {n1 n2 n3 : Nat} {l1 l2 l3 : Array (Option Value)} (hm : mg x = some (.ref a)) (ha : K.lookup a = some ⟨.type "tuple", d1, .seq #[.int 0 t1, .int 0 t2, .ref e, .ref f] n1, l1⟩)
    (he : K.lookup e = some ⟨.type "tuple", d2, .seq #[] n2, l2⟩) (hf : K.lookup f = some ⟨.type "tuple", d3, .seq #[] n3, l3⟩) : TFirst K mg x :=
  ⟨a, e, f, hm, ⟨_, _, _, ha, rfl, rfl, by show 4 ≤ sizeLine; decide, .cons ⟨t1, rfl⟩ (.cons ⟨t2, rfl⟩ (.cons rfl (.cons rfl .nil)))⟩, ⟨_, _, _, he, rfl, rfl, by show 0 ≤ sizeLine; decide, .nil⟩, ⟨_, _, _, hf, rfl, rfl, by show 0 ≤ sizeLine; decide, .nil⟩⟩
end
instance {α β γ δ : Type} [Py α] [Py β] [Py γ] [Py δ] [ToD α] [ToD β] [ToD γ] [ToD δ] : ToD (T4 α β γ δ) := ⟨fun x => .tup [ToD.dat x.a, ToD.dat x.b, ToD.dat x.c, ToD.dat x.d], fun ⟨p, a, b, c, d, h1, h2, h3, h4, h5, h6⟩ => by
  rw [h1]; exact .tup h2 (.cons (ToD.of h3) (.cons (ToD.of h4) (.cons (ToD.of h5) (.cons (ToD.of h6) .nil))))⟩
instance {α β γ δ : Type} [Py α] [Py β] [Py γ] [Py δ] : Ty (T4 α β γ δ) "tuple" := ⟨fun e ⟨p, a, b, c, d, h1, h2, _⟩ => by rw [h1]; exact tyT e h2⟩
instance {α β γ δ ε : Type} [Py α] [Py β] [Py γ] [Py δ] [Py ε] : Ty (T5 α β γ δ ε) "tuple" := ⟨fun e' ⟨p, a, b, c, d, e, h1, h2, _⟩ => by rw [h1]; exact tyT e' h2⟩
section
variable {α β γ δ : Type} [Py α] [Py β] [Py γ] [Py δ]
instance [Dt α] [Dt β] [Dt γ] [Dt δ] : Dt (T4 α β γ δ) := ⟨fun x => .tuple [Dt.dat x.a, Dt.dat x.b, Dt.dat x.c, Dt.dat x.d], fun z ⟨p, a, b, c, d, h1, h2, h3, h4, h5, h6⟩ => by rw [h1]; exact .tup (seqT z h2) (.cons (Dt.dp z h3) (.cons (Dt.dp z h4) (.cons (Dt.dp z h5) (.cons (Dt.dp z h6) .nil)))),
  fun x => by simp [PyData.canLay0, PyData.canLayAll0, Dt.lay], max (Dt.dep α) (max (Dt.dep β) (max (Dt.dep γ) (Dt.dep δ))) + 1, fun x => by
    have h1 := Dt.dle x.a
    have h2 := Dt.dle x.b
    have h3 := Dt.dle x.c
    have h4 := Dt.dle x.d
    simp only [PyData.depth, PyData.depthAll]
    omega, fun x y => by
    simp only [PyData.eqv, PyData.eqvAll, Bool.and_eq_true, Dt.eq, and_true]
    cases x; cases y; simp⟩
end
theorem takes_never {X : Cx} : Takes X (fun _ _ _ _ => False) := fun u s' ⟨_, _, _, _, _, _, _, _, _, _, _, _, _, _, _, _, w⟩ => w.elim
section
variable {K : Fg} {G G1 : List Sl} {t : TA} {α β : Type} [PyA α] [Py β] {Y : XC → Addr} {W : WX}
end
section
variable {K : Fg} {G G1 : List Sl} {te : TE} {α : Type} [Py α] [ToD α]
end
mutual
def Dat.pd : Dat → PyData
  | .non => .none
  | .int i => .int i
  | .bl b => .bool b
  | .str s => .str s
  | .tup l => .tuple (pdL l)
  | .lst l => .list (pdL l)
def pdL : List Dat → List PyData
  | [] => []
  | d :: l => d.pd :: pdL l
end
mutual
theorem DRep.dp {K : Fg} {S : Hp} : ∀ {v : V} {d : Dat}, DRep K S v d → Dp K S v d.pd
  | _, _, .non => .non
  | _, _, .int i => .int i
  | _, _, .bl i => .bl i
  | _, _, .str i => .str i
  | _, _, .tup h r => .tup h (DRepL.dp r)
  | _, _, .lst h r => .lst (SqL.of h) (DRepL.dp r)
theorem DRepL.dp {K : Fg} {S : Hp} : ∀ {vs : List V} {l : List Dat}, DRepL K S vs l → DpAll K S vs (pdL l)
  | _, _, .nil => .nil
  | _, _, .cons h r => .cons (DRep.dp h) (DRepL.dp r)
end
inductive DPl : Nat → Dat → Prop
  | non {k : Nat} : DPl k .non
  | int {k : Nat} {i : Int} : DPl k (.int i)
  | bl {k : Nat} {i : Bool} : DPl k (.bl i)
  | str {k : Nat} {s : Str} : (PyData.str s).canLay0 = true → DPl k (.str s)
  | tup {k : Nat} {l : List Dat} : (∀ x ∈ l, DPl k x) → DPl (k + 1) (.tup l)
  | lst {k : Nat} {l : List Dat} : (∀ x ∈ l, DPl k x) → DPl (k + 1) (.lst l)
theorem pl_all {k : Nat} : ∀ {l : List Dat}, (∀ x ∈ l, x.pd.canLay0 = true ∧ x.pd.depth ≤ k) → PyData.canLayAll0 (pdL l) = true ∧ PyData.depthAll (pdL l) ≤ k
  | [], _ => ⟨rfl, Nat.zero_le _⟩
  | x :: l, h => by
    obtain ⟨a, b⟩ := h x List.mem_cons_self
    obtain ⟨c, d⟩ := pl_all (l := l) fun y hy => h y (List.mem_cons_of_mem _ hy)
    refine ⟨by rw [pdL, PyData.canLayAll0, a, c]; rfl, ?_⟩
    rw [pdL]
    simp only [PyData.depthAll]
    omega
theorem DPl.lay {k : Nat} {d : Dat} (h : DPl k d) : d.pd.canLay0 = true ∧ d.pd.depth ≤ k := by
  induction h with
  | non => exact ⟨rfl, Nat.zero_le _⟩
  | int => exact ⟨rfl, Nat.zero_le _⟩
  | bl => exact ⟨rfl, Nat.zero_le _⟩
  | str h => exact ⟨h, Nat.zero_le _⟩
  | tup _ ih =>
    obtain ⟨a, b⟩ := pl_all ih
    exact ⟨by rw [Dat.pd, PyData.canLay0]; exact a, by rw [Dat.pd, PyData.depth]; exact Nat.succ_le_succ b⟩
  | lst _ ih =>
    obtain ⟨a, b⟩ := pl_all ih
    exact ⟨by rw [Dat.pd, PyData.canLay0]; exact a, by rw [Dat.pd, PyData.depth]; exact Nat.succ_le_succ b⟩
theorem DPl.up {k : Nat} {d : Dat} (h : DPl k d) : DPl (k + 1) d := by
  induction h with
  | non => exact .non
  | int => exact .int
  | bl => exact .bl
  | str h => exact .str h
  | tup _ ih => exact .tup ih
  | lst _ ih => exact .lst ih
theorem DPl.shaped {k : Nat} {d : Dat} (h : DPl k d) (hk : k ≤ 64) : SeqAt.shaped d.pd = true := by
  obtain ⟨a, b⟩ := h.lay
  unfold SeqAt.shaped
  rw [a, decide_eq_true (Nat.le_trans b hk)]
  rfl
section
variable {K : Fg} {G G1 G2 : List Sl} {ta tb : TE} {k : Nat}
end
end GL
namespace GL
open PySem PySem.Spec PyProof.Rows L2
section
variable {α β γ : Type} [Py α] [Py β] [Py γ] [ToD α] [ToD β] [ToD γ] {k : Nat}
end
theorem cutL_len {α : Type} {xs : List α} {lo hi : Option Int} : (cutL xs lo hi).length ≤ xs.length := by
  unfold cutL
  rw [List.length_take, List.length_drop]
  omega
end GL
namespace GL
open PySem
open PySem.Sem (wp)
section
variable {prog : Program} {w : World} {κ : Type} [DecidableEq κ] (knd : KeyKind prog w κ)
abbrev NK (κ : Type) := List (κ ⊕ List κ)
def ItemN (h : Heap) : κ ⊕ List κ → Value → Prop
  | .inl k, v => knd.is k v = true
  | .inr l, v => ∃ b, v = .ref b ∧ IsTupleKey knd h l b
inductive ItemsN (h : Heap) : NK κ → List Value → Prop
  | nil : ItemsN h [] []
  | cons {k : κ ⊕ List κ} {v : Value} {ks : NK κ} {vs : List Value} : ItemN knd h k v → ItemsN h ks vs → ItemsN h (k :: ks) (v :: vs)
def IsNK (h : Heap) (ks : NK κ) (a : Addr) : Prop := ∃ o items n, h.get? a = some o ∧ o.cls = .type "tuple" ∧ o.data = .seq items n ∧ ItemsN knd h ks items.toList
variable {knd}
theorem ItemN.inj {h : Heap} {x y : κ ⊕ List κ} {v : Value} (hx : ItemN knd h x v) (hy : ItemN knd h y v) : x = y := by
  cases x with
  | inl k =>
    cases y with
    | inl k' => exact congrArg Sum.inl (knd.inj _ _ _ hx hy)
    | inr l' =>
      obtain ⟨b, rfl, _⟩ := hy
      have := knd.byValue _ _ hx
      simp [carriedByValue] at this
  | inr l =>
    obtain ⟨b, rfl, hl⟩ := hx
    cases y with
    | inl k' =>
      have := knd.byValue _ _ hy
      simp [carriedByValue] at this
    | inr l' =>
      obtain ⟨b', e, hl'⟩ := hy
      cases e
      exact congrArg Sum.inr (hl.inj hl')
theorem ItemsN.inj {h : Heap} {x y : NK κ} {vs : List Value} (hx : ItemsN knd h x vs) (hy : ItemsN knd h y vs) : x = y := by
  induction hx generalizing y with
  | nil => cases hy; rfl
  | cons h1 _ ih =>
    cases hy with
    | cons h2 t2 => rw [h1.inj h2, ih t2]
theorem IsNK.typeIs {s : Shared} {ks : NK κ} {a : Addr} (x : IsNK knd s.heap ks a) : s.TypeIs (.ref a) "tuple" := let ⟨o, _, _, ho, hc, _⟩ := x; ⟨o, ho, hc⟩
theorem IsNK.inj {h : Heap} {a : Addr} {x y : NK κ} (hx : IsNK knd h x a) (hy : IsNK knd h y a) : x = y := by
  obtain ⟨o, items, n, ho, _, hd, hi⟩ := hx
  obtain ⟨o', items', n', ho', _, hd', hi'⟩ := hy
  obtain rfl : o = o' := Option.some.inj (ho.symm.trans ho')
  rw [hd] at hd'
  injection hd' with h1 _
  subst h1
  exact hi.inj hi'
theorem ItemsN.keeps {h h' : Heap} {d : Addr} {o : Obj} {es ep} (ho : h.get? d = some o) (hd : o.data = .dict es ep) (hs : Heap.SameBut d h h') {ks : NK κ} {vs : List Value} (x : ItemsN knd h ks vs) : ItemsN knd h' ks vs := by
  induction x with
  | nil => exact .nil
  | @cons k v ks vs h1 _ ih =>
    refine .cons ?_ ih
    cases k with
    | inl k => exact h1
    | inr l =>
      obtain ⟨b, e, hl⟩ := h1
      exact ⟨b, e, hl.keeps ho hd hs⟩
theorem IsNK.keeps {h h' : Heap} {ks : NK κ} {a d : Addr} {o : Obj} {es ep} (x : IsNK knd h ks a) (ho : h.get? d = some o) (hd : o.data = .dict es ep) (hs : Heap.SameBut d h h') : IsNK knd h' ks a := by
  obtain ⟨o', items, n, ho', hc, hd', hi⟩ := x
  have hne : a ≠ d := by
    rintro rfl
    obtain rfl : o' = o := Option.some.inj (ho'.symm.trans ho)
    rw [hd] at hd'
    exact nomatch hd'
  exact ⟨o', items, n, (hs.2 a hne).trans ho', hc, hd', hi.keeps ho hd hs⟩
variable (knd) in
def itemHash : κ ⊕ List κ → Int
  | .inl k => knd.hash k
  | .inr l => tupleKeyHash knd l
def itemDraws : κ ⊕ List κ → Nat
  | .inl _ => 1
  | .inr l => l.length + 1
def nkDraws (ks : NK κ) : Nat := (ks.map itemDraws).sum + 1
variable (knd) in
def nkHash (ks : NK κ) : Int := reduceHash (Builtin.Tuple.tupleHashOf (ks.map (itemHash knd)))
variable {A : Around} {E : Value → Shared → Prop} {s : Shared}
theorem hash_item {k : κ ⊕ List κ} {v : Value} {Q : Int → Shared → Prop} (hu : A.units < cLine) (hk : ItemN knd s.heap k v) (h : Q (itemHash knd k) { s with toks := s.toks + itemDraws k }) : wpAny (model prog w) A (pyHash v) Q E s := by
  cases k with
  | inl k => exact knd.pyHash hk h
  | inr l =>
    obtain ⟨b, rfl, hl⟩ := hk
    exact wpAny_pyHash_tuple hu hl h
theorem hash_nk {ks : NK κ} {a : Addr} {Q : Int → Shared → Prop} (hu : A.units + 1 < cLine) (hk : IsNK knd s.heap ks a) (h : Q (nkHash knd ks) { s with toks := s.toks + nkDraws ks }) :
    wpAny (model prog w) A (pyHash (.ref a)) Q E s := by
  have hT := hk.typeIs
  obtain ⟨o, items, n, ho, _, hd, hi⟩ := hk
  unfold pyHash
  first | unfold pyHashByItsType | skip
  first | refine wpAny_bind (wpAny_cRoomFor_or (.inr (Nat.lt_of_succ_lt hu)) ?_) | skip
  refine wpAny_bind (wpAny_specialOf hT F.slot_tuple_hash.lookup ?_)
  show wpAny _ _ (if (some (Value.builtin "tuple.__hash__") == some Value.none) = true then _ else _) Q E s
  rw [if_neg (by rw [beq_builtin_none]; exact Bool.false_ne_true)]
  refine wpAny_bind (wpAny_specialOf hT F.slot_tuple_hash.lookup ?_)
  show wpAny _ _ (callSpecialIfBoundUnlessNone? (.ref a) "__hash__" _ >>= _) Q E s
  refine wpAny_bind (wpAny_callSpecialIfBoundUnlessNone?_slot hT F.slot_tuple_hash (wpAny_call_entry F.slot_tuple_hash hT F.entry_tuple_hash ?_ (F.args_tuple_hash_1 _)))
  show wpAny _ _ (Builtin.Tuple.tupleItemsOf (.ref a) >>= _) _ _ s
  refine wpAny_bind (wpAny_tupleItemsOf ho hd ?_)
  refine wpAny_bind ?_
  rw [← Array.forIn_toList]
  refine wpAny_forIn_list _
    (fun rest (b : Array Int) s' => ∃ done left, ks = done ++ left ∧ ItemsN knd s.heap left rest ∧ b.toList = done.map (itemHash knd) ∧ s' = { s with toks := s.toks + (done.map itemDraws).sum })
    _ ?_ ?_ _ _ ⟨[], ks, rfl, hi, rfl, rfl⟩
  · rintro x rest b s' ⟨done, left, rfl, hl, hb, rfl⟩
    cases hl with
    | @cons k _ ks' _ h1 hl' =>
      refine wpAny_bind (hash_item (by first | exact hu | exact Nat.lt_of_succ_lt hu) h1 ?_)
      first
        | exact wpAny_pure ⟨done ++ [k], ks', by simp, hl', by simp [hb], by simp [Nat.add_assoc]⟩
        | exact wpAny_bind (wpAny_pure (wpAny_pure ⟨done ++ [k], ks', by simp, hl', by simp [hb], by simp [Nat.add_assoc]⟩))
  · rintro b s' ⟨done, left, rfl, hl, hb, rfl⟩
    cases hl
    rw [List.append_nil] at h
    show wpAny _ _ (retInt (Builtin.Tuple.tupleHashOf b.toList)) _ _ _
    rw [hb]
    refine wpAny_ret_mkInt ?_
    show wpAny _ _ (if (decide (-(2 : Int) ^ 63 ≤ Builtin.Tuple.tupleHashOf (done.map (itemHash knd))) && decide (Builtin.Tuple.tupleHashOf (done.map (itemHash knd)) < 2 ^ 63)) = true then _ else _) Q E _
    unfold nkHash reduceHash nkDraws at h
    by_cases hr : (decide (-(2 : Int) ^ 63 ≤ Builtin.Tuple.tupleHashOf (done.map (itemHash knd))) && decide (Builtin.Tuple.tupleHashOf (done.map (itemHash knd)) < 2 ^ 63)) = true
    · rw [if_pos hr]
      rw [if_pos hr] at h
      exact wpAny_pure (by simpa [Nat.add_assoc] using h)
    · rw [if_neg hr]
      rw [if_neg hr] at h
      exact wpAny_bind (wpAny_rule (wpAny_pure (by simpa [Nat.add_assoc] using h)))
def side : κ ⊕ List κ → Bool
  | .inl _ => true
  | .inr _ => false
theorem eq_item {x y : κ ⊕ List κ} {u v : Value} {Q : Bool → Shared → Prop} (hu : A.units < cLine) (hs : side x = side y) (hx : ItemN knd s.heap x u) (hy : ItemN knd s.heap y v) (h : Q (decide (x = y)) s) : wpAny (model prog w) A (eqBool u v) Q E s := by
  cases x with
  | inl k =>
    cases y with
    | inl k' => exact knd.eqBool (a := k) (b := k') hx hy (by rw [show decide (k = k') = decide ((Sum.inl k : κ ⊕ List κ) = .inl k') by simp]; exact h)
    | inr l' => cases hs
  | inr l =>
    obtain ⟨b, rfl, hl⟩ := hx
    cases y with
    | inl k' => cases hs
    | inr l' =>
      obtain ⟨b', rfl, hl'⟩ := hy
      exact wpAny_eqBool_tuple hu hl hl' (by rw [show decide (l = l') = decide ((Sum.inr l : κ ⊕ List κ) = .inr l') by simp]; exact h)
theorem eq_tree {x y : NK κ} {a b : Addr} {P : Fin → Shared → Prop} (hu : A.units < cLine) (hsd : x.map side = y.map side) (hx : IsNK knd s.heap x a) (hy : IsNK knd s.heap y b) (h : P (.done (.ret (.bool (decide (x = y))))) s) :
    wpAny (model prog w) A (Builtin.«tuple.__eq__» ⟨[.ref a, .ref b], []⟩) P E s := by
  have hTb := hy.typeIs
  obtain ⟨oa, xs, na, hoa, _, hda, hia⟩ := hx
  obtain ⟨ob, ys, nb, hob, _, hdb, hib⟩ := hy
  show wpAny _ _ (isInstance (.ref b) (.type "tuple") >>= _) _ _ s
  refine wpAny_bind (wpAny_isInstance hTb isSubtype_tuple_tuple ?_)
  simp only [Bool.not_true, Bool.false_eq_true, if_false]
  refine wpAny_bind (wpAny_tupleItemsOf hoa hda ?_)
  refine wpAny_bind (wpAny_tupleItemsOf hob hdb ?_)
  refine wpAny_bind ?_
  refine wpAny_forIn_list _
    (fun rest r s' => r.1 = none ∧ s' = s ∧ ∃ x' y' xs' ys', rest = List.zip xs' ys' ∧ ItemsN knd s.heap x' xs' ∧ ItemsN knd s.heap y' ys' ∧ x'.map side = y'.map side ∧ decide (x' = y') = decide (x = y) ∧ (xs'.length == ys'.length) = (xs.size == ys.size))
    _ ?_ ?_ _ _ ⟨rfl, rfl, x, y, xs.toList, ys.toList, rfl, hia, hib, hsd, rfl, by simp⟩
  · rintro ⟨u, v⟩ rest r s' ⟨hr, rfl, x', y', xs', ys', hz, hx', hy', hsd', hdec, hlen⟩
    cases hx' with
    | nil => simp at hz
    | @cons k1 u' x'' xs'' h1 hx'' =>
      cases hy' with
      | nil => simp at hz
      | @cons k2 v' y'' ys'' h2 hy'' =>
        simp only [List.zip_cons_cons, List.cons.injEq, Prod.mk.injEq] at hz
        obtain ⟨⟨rfl, rfl⟩, rfl⟩ := hz
        simp only [List.map_cons, List.cons.injEq] at hsd'
        refine wpAny_bind (eq_item hu hsd'.1 h1 h2 ?_)
        by_cases hk : k1 = k2
        · subst hk
          rw [decide_eq_true rfl]
          simp only [Bool.not_true, Bool.false_eq_true, if_false]
          refine wpAny_pure ⟨rfl, rfl, x'', y'', xs'', ys'', rfl, hx'', hy'', hsd'.2, ?_, by simpa using hlen⟩
          rw [← hdec]
          by_cases hxy : x'' = y''
          · simp [hxy]
          · simp [hxy]
        · rw [decide_eq_false hk]
          simp only [Bool.not_false, if_true]
          have hf : decide (x = y) = false := by rw [← hdec]; simp [hk]
          rw [hf] at h
          exact wpAny_bind (wpAny_pure (wpAny_pure (wpAny_pure h)))
  · rintro ⟨r1, r2⟩ s' ⟨hr, rfl, x', y', xs', ys', hz, hx', hy', hsd', hdec, hlen⟩
    simp only at hr
    subst hr
    refine wpAny_pure ?_
    have hfin : (xs.size == ys.size) = decide (x = y) := by
      rw [← hdec, ← hlen]
      cases hx' with
      | nil =>
        cases hy' with
        | nil => simp
        | cons _ _ => simp
      | cons _ _ =>
        cases hy' with
        | nil => simp
        | cons _ _ => simp at hz
    show P (.done (.ret (.bool (xs.size == ys.size)))) s'
    rw [hfin]
    exact h
theorem eq_nk {x y : NK κ} {a b : Addr} {Q : Bool → Shared → Prop} (hu : A.units + 1 < cLine) (hsd : x.map side = y.map side) (hx : IsNK knd s.heap x a) (hy : IsNK knd s.heap y b) (h : Q (decide (x = y)) s) :
    wpAny (model prog w) A (eqBool (.ref a) (.ref b)) Q E s := by
  unfold eqBool
  try with_reducible refine wpAny_holding ?_
  show wpAny _ _ (if (Value.ref a == Value.ref b) = true then _ else _) Q E s
  by_cases hab : (Value.ref a == Value.ref b) = true
  · rw [if_pos hab]
    have e : a = b := by have := eq_of_beq hab; injection this
    subst e
    obtain rfl := hx.inj hy
    exact wpAny_bind (wpAny_rule (wpAny_pure (by simpa using h)))
  · rw [if_neg hab]
    exact wpAny_bind (wpAny_richCompare_same_room (op := .Eq) hx.typeIs hy.typeIs F.slot_tuple_eq
      (wpAny_call_entry F.slot_tuple_eq hx.typeIs F.entry_tuple_eq (eq_tree (by first | exact hu | exact Nat.lt_of_succ_lt hu) hsd hx hy ⟨_, rfl, (fun e => nomatch e), wpAny_truthy_bool h⟩) (F.args_tuple_eq_2 _ _)) (Nat.lt_of_succ_lt hu))
theorem quiet_tup (n : Nat) {ks : List κ} {a : Addr} {Q : Bool → Shared → Prop} (hk : IsTupleKey knd s.heap ks a) (h : Q true s) : wpAny (model prog w) A (eqIsQuiet (n + 1) (.ref a)) Q E s := by
  have hT := hk.typeIs
  obtain ⟨o, items, n', ho, _, hd, hi⟩ := hk
  unfold eqIsQuiet
  refine wpAny_bind (wpAny_specialOf hT F.slot_tuple_eq.lookup ?_)
  show wpAny _ _ (isInstance (.ref a) (.type "tuple") >>= _) _ _ s
  refine wpAny_bind (wpAny_isInstance hT isSubtype_tuple_tuple ?_)
  simp only [Bool.not_true, Bool.false_eq_true, if_false]
  refine wpAny_bind (wpAny_seqItems ho hd ?_)
  refine wpAny_bind ?_
  show wpAny _ _ (forIn items _ _) _ _ s
  rw [← Array.forIn_toList]
  refine wpAny_forIn_list _ (fun rest r s' => r.1 = none ∧ s' = s ∧ ∀ v ∈ rest, carriedByValue v = true) _ ?_ ?_ _ _ ⟨rfl, rfl, hi.byValue⟩
  · rintro v rest r s' ⟨hr, rfl, hall⟩
    rw [eqIsQuiet_byValue _ (hall v List.mem_cons_self)]
    refine wpAny_bind (wpAny_pure ?_)
    simp only [Bool.not_true, Bool.false_eq_true, if_false]
    exact wpAny_pure ⟨rfl, rfl, fun u hu' => hall u (List.mem_cons_of_mem _ hu')⟩
  · rintro ⟨r1, r2⟩ s' ⟨hr, rfl, _⟩
    simp only at hr
    subst hr
    exact wpAny_pure h
theorem quiet_nk {ks : NK κ} {a : Addr} {Q : Bool → Shared → Prop} (hk : IsNK knd s.heap ks a) (h : Q true s) : wpAny (model prog w) A (eqIsQuiet 8 (.ref a)) Q E s := by
  have hT := hk.typeIs
  obtain ⟨o, items, n', ho, _, hd, hi⟩ := hk
  unfold eqIsQuiet
  refine wpAny_bind (wpAny_specialOf hT F.slot_tuple_eq.lookup ?_)
  show wpAny _ _ (isInstance (.ref a) (.type "tuple") >>= _) _ _ s
  refine wpAny_bind (wpAny_isInstance hT isSubtype_tuple_tuple ?_)
  simp only [Bool.not_true, Bool.false_eq_true, if_false]
  refine wpAny_bind (wpAny_seqItems ho hd ?_)
  refine wpAny_bind ?_
  show wpAny _ _ (forIn items _ _) _ _ s
  rw [← Array.forIn_toList]
  refine wpAny_forIn_list _ (fun rest r s' => r.1 = none ∧ s' = s ∧ ∃ left, ItemsN knd s.heap left rest) _ ?_ ?_ _ _ ⟨rfl, rfl, ks, hi⟩
  · rintro v rest r s' ⟨hr, rfl, left, hall⟩
    cases hall with
    | @cons k _ ks' _ h1 hl' =>
      have go : ∀ {Q' : Bool → Shared → Prop}, Q' true s' → wpAny (model prog w) A (eqIsQuiet 7 v) Q' E s' := fun q => by
        cases k with
        | inl k =>
          rw [eqIsQuiet_byValue _ (knd.byValue _ _ h1)]
          exact wpAny_pure q
        | inr l =>
          obtain ⟨b, rfl, hl⟩ := h1
          exact quiet_tup 6 hl q
      refine wpAny_bind (go ?_)
      simp only [Bool.not_true, Bool.false_eq_true, if_false]
      exact wpAny_pure ⟨rfl, rfl, ks', hl'⟩
  · rintro ⟨r1, r2⟩ s' ⟨hr, rfl, _⟩
    simp only at hr
    subst hr
    exact wpAny_pure h
end
def nkKind {prog : Program} {w : World} {κ : Type} [DecidableEq κ] (knd : KeyKind prog w κ) (sh : List Bool) : HeapKind prog w (NK κ) where
  is := fun h ks a => IsNK knd h ks a ∧ ks.map side = sh
  hash := nkHash knd
  draws := nkDraws
  room := fun A => A.units + 1 < cLine
  inj := fun hx hy => hx.1.inj hy.1
  keeps := fun x ho hd hs => ⟨x.1.keeps ho hd hs, x.2⟩
  pyHash := fun hu hk h => hash_nk hu hk.1 h
  eqBool := fun hu hx hy h => eq_nk hu (hx.2.trans hy.2.symm) hx.1 hy.1 h
  quiet := fun hk h => quiet_nk hk.1 h
end GL
namespace GL
open PySem PySem.Spec PyProof.Rows L2
abbrev NKy := NK Int
def itemH : Int ⊕ List Int → Int
  | .inl k => hashInt k
  | .inr l => reduceHash (Builtin.Tuple.tupleHashOf (l.map hashInt))
def nkH (ks : NKy) : Int := reduceHash (Builtin.Tuple.tupleHashOf (ks.map itemH))
theorem nkH_eq (P : Program) (w : World) (ks : NKy) : nkHash (intKind P w) ks = nkH ks := by
  have e : itemHash (intKind P w) = itemH := by
    funext x
    cases x <;> rfl
  unfold nkHash nkH
  rw [e]
abbrev NL := List (NKy × Addr × V)
abbrev NV := List (NKy × Addr × Value)
abbrev NR : NL → NV → Prop := Paired fun p q => p.1 = q.1 ∧ p.2.1 = q.2.1 ∧ RelV p.2.2 q.2.2
def ndW (d : Addr) (L : NL) (h : Heap) : Prop := L.length ≤ sizeLine ∧ (d == sysModules) = false ∧ (L.map (·.1)).Nodup ∧
  ∃ xs : NV, NR L xs ∧ ∃ o es ep, h.get? d = some o ∧ o.ExactDict ∧ o.data = .dict es ep ∧ es.toList = xs.map fun x => ⟨nkH x.1, .ref x.2.1, x.2.2⟩
abbrev ndH (d : Addr) (L : NL) : HO := .ext (ndW d L)
def valN (L : NL) (k : NKy) : Option V := (L.find? fun e => decide (e.1 = k)).map (·.2.2)
def putN (L : NL) (k : NKy) (a : Addr) (v : V) : NL := if (valN L k).isSome = true then L.map (fun e => if e.1 = k then (e.1, e.2.1, v) else e) else L ++ [(k, a, v)]
def ItV (K : PySem.W.Frag) (H : Hp) : Int ⊕ List Int → V → Prop
  | .inl n, v => v = .int n
  | .inr l, v => ∃ b, v = .ref b ∧ SqT K H b (l.map .int)
def ItsV (K : PySem.W.Frag) (H : Hp) : NKy → List V → Prop
  | [], [] => True
  | k :: ks, v :: vs => ItV K H k v ∧ ItsV K H ks vs
  | _, _ => False
def KeyV (K : PySem.W.Frag) (H : Hp) (k : NKy) (a : Addr) : Prop := ∃ vs, SqT K H a vs ∧ ItsV K H k vs
def AllK (K : PySem.W.Frag) (H : Hp) (sh : List Bool) (L : NL) : Prop := ∀ e ∈ L, KeyV K H e.1 e.2.1 ∧ e.1.map side = sh
section
variable {X : Cx} {pins : List (Addr × Obj)} {σ : L2.St} {H : Hp} {s : Shared}
theorem ints_key {P : Program} {w : World} : ∀ {l : List Int} {its : List Value}, Vals (l.map V.int) its → ItemsAre (intKind P w) l its
  | [], [], _ => .nil
  | n :: l, v :: its, h => by
    cases h with
    | cons h1 h2 =>
      obtain ⟨t, rfl⟩ := h1
      exact .cons (by show Value.isInt n (.int n t) = true; simp [Value.isInt]) (ints_key h2)
theorem ItsV.at_ (I : Inv X pins σ H s) : ∀ {k : NKy} {vs : List V} {its : List Value}, ItsV X.K H k vs → Vals vs its → ItemsN (intKind X.prog X.w) s.heap k its
  | [], [], its, _, h => by cases h; exact .nil
  | .inl n :: ks, v :: vs, its, ⟨h1, h2⟩, h => by
    cases h with
    | cons r1 r2 =>
      rw [show v = .int n from h1] at r1
      obtain ⟨t, rfl⟩ := r1
      exact .cons (by show Value.isInt n (.int n t) = true; simp [Value.isInt]) (ItsV.at_ I h2 r2)
  | .inr l :: ks, v :: vs, its, ⟨h1, h2⟩, h => by
    cases h with
    | cons r1 r2 =>
      obtain ⟨b, rfl, hb⟩ := h1
      rw [show _ = Value.ref b from r1]
      obtain ⟨its', hv, hT, _⟩ := I.tuple hb
      obtain ⟨o, ho, hc, n, hd⟩ := hT
      exact .cons ⟨b, rfl, o, its'.toArray, n, ho, hc, hd, by simpa using ints_key hv⟩ (ItsV.at_ I h2 r2)
  | [], _ :: _, _, h, _ => h.elim
  | .inl _ :: _, [], _, h, _ => h.elim
  | .inr _ :: _, [], _, h, _ => h.elim
theorem KeyV.at_ (I : Inv X pins σ H s) {k : NKy} {a : Addr} (h : KeyV X.K H k a) : IsNK (intKind X.prog X.w) s.heap k a := by
  obtain ⟨vs, h1, h2⟩ := h
  obtain ⟨its, hv, hT, _⟩ := I.tuple h1
  obtain ⟨o, ho, hc, n, hd⟩ := hT
  exact ⟨o, its.toArray, n, ho, hc, hd, by simpa using h2.at_ I hv⟩
theorem NR.keys : ∀ {L : NL} {xs : NV}, NR L xs → L.map (·.1) = xs.map (·.1)
  | _, _, .nil => rfl
  | _, _, .cons h t => by rw [List.map_cons, List.map_cons, h.1, NR.keys t]
theorem NR.all {p : NKy → Addr → Prop} : ∀ {L : NL} {xs : NV}, NR L xs → (∀ e ∈ L, p e.1 e.2.1) → ∀ x ∈ xs, p x.1 x.2.1
  | _, _, .nil, _, x, hx => nomatch hx
  | _, _, .cons h t, q, x, hx => by
    rcases List.mem_cons.mp hx with e | hx
    · subst e
      rw [← h.1, ← h.2.1]
      exact q _ List.mem_cons_self
    · exact NR.all t (fun e he => q e (List.mem_cons_of_mem _ he)) x hx
theorem NR.val (k : NKy) : ∀ {L : NL} {xs : NV}, NR L xs → RelO (valN L k) ((atKey xs k).map (·.2))
  | _, _, .nil => True.intro
  | _, _, @Paired.cons _ _ _ p q L xs h t => by
    unfold valN atKey
    by_cases e : p.1 = k
    · rw [List.find?_cons, List.find?_cons, decide_eq_true e, decide_eq_true (by rw [← h.1]; exact e)]
      exact h.2.2
    · rw [List.find?_cons, List.find?_cons, decide_eq_false e, decide_eq_false (by rw [← h.1]; exact e)]
      exact NR.val k t
theorem nd_of (I : Inv X pins σ H s) {d : Addr} {sh : List Bool} {L : NL} (e : H d = some (ndH d L)) (ak : AllK X.K H sh L) : L.length ≤ sizeLine ∧ (d == sysModules) = false ∧ ∃ xs : NV, NR L xs ∧ s.heap.DictOfH (nkKind (intKind X.prog X.w) sh) d xs := by
  obtain ⟨⟨z, hd, hn, xs, rel, o, es, ep, ho, hx, hdt, hes⟩, _, _⟩ := (show ObjOk X.prog X.w H s.heap d (ndH d L) from I.hok d _ e)
  refine ⟨z, hd, xs, rel, o, es, ep, ho, hx, hdt, ?_, ?_, ?_⟩
  · rw [hes]
    refine List.map_congr_left fun x _ => ?_
    show _ = DictEntry.mk (nkHash (intKind X.prog X.w) x.1) _ _
    rw [nkH_eq]
  · exact NR.all (p := fun k a => (nkKind (intKind X.prog X.w) sh).is s.heap k a) rel fun e he => ⟨(ak e he).1.at_ I, (ak e he).2⟩
  · rw [← NR.keys rel]
    exact hn
theorem nkd_ok {P : Program} {w : World} {H' : Hp} {h : Heap} {d : Addr} {sh : List Bool} {L : NL} {xs : NV} (z : L.length ≤ sizeLine) (hd : (d == sysModules) = false) (rel : NR L xs) (dd : h.DictOfH (nkKind (intKind P w) sh) d xs) : ObjOk P w H' h d (ndH d L) := by
  obtain ⟨o, es, ep, ho, hx, hdt, hes, _, hn⟩ := dd
  have x : ndW d L h := ⟨z, hd, by rw [NR.keys rel]; exact hn, xs, rel, o, es, ep, ho, hx, hdt, by
    rw [hes]
    refine List.map_congr_left fun x _ => ?_
    show DictEntry.mk (nkHash (intKind P w) x.1) _ _ = _
    rw [nkH_eq]⟩
  refine ⟨x, ⟨o, ho⟩, fun h1 h2 ⟨z', hd', hn', xs', rel', o', es', ep', ho', r⟩ k => ⟨z', hd', hn', xs', rel', o', es', ep', k _ ho', r⟩⟩
theorem NR.put {k : NKy} {a : Addr} {v : V} {u : Value} (rv : RelV v u) {L : NL} {xs : NV} (r : NR L xs) : NR (putN L k a v) (storedH xs k a u) := by
  have e : (valN L k).isSome = (atKey xs k).isSome := by
    have := (r.val k).isSome_eq
    rw [Option.isSome_map] at this
    exact this
  unfold putN storedH
  rw [e]
  by_cases q : (atKey xs k).isSome = true
  · rw [if_pos q, if_pos q]
    clear e q
    induction r with
    | nil => exact .nil
    | @cons p q L xs h t ih =>
      refine .cons ?_ ih
      unfold putAt
      dsimp only
      by_cases c : p.1 = k
      · rw [if_pos c, if_pos (by rw [← h.1]; exact c)]
        exact ⟨h.1, h.2.1, rv⟩
      · rw [if_neg c, if_neg (by rw [← h.1]; exact c)]
        exact h
  · rw [if_neg q, if_neg q]
    exact Paired.snoc r ⟨rfl, rfl, rv⟩
theorem putN_len (L : NL) (k : NKy) (a : Addr) (v : V) : (putN L k a v).length ≤ L.length + 1 := by
  unfold putN
  split
  · rw [List.length_map]; omega
  · rw [List.length_append]; exact Nat.le_refl _
variable {A : Around} {E : Value → Shared → Prop} {d b : Addr} {sh : List Bool} {L : NL} {k : NKy} {v : V} {u r : Value}
structure NAt (K : PySem.W.Frag) (H : Hp) (d : Addr) (L : NL) (b : Addr) (k : NKy) : Prop where
  e : H d = some (ndH d L)
  ak : AllK K H (k.map side) L
  kb : KeyV K H k b
theorem n_in {Q : Value → Shared → Prop} (hu : A.units + 2 < cLine) (I : Inv X pins σ H s) (n : NAt X.K H d L b k) (h : ∀ s', Inv X pins σ H s' → Q (.bool (valN L k).isSome) s') : wpAny (model X.prog X.w) A (compareOp .In (.ref b) (.ref d)) Q E s := by
  obtain ⟨z, hd, xs, rel, dd⟩ := nd_of I n.e n.ak
  refine wpAny_in_heap (knd := nkKind (intKind X.prog X.w) (k.map side)) hu ⟨n.kb.at_ I, rfl⟩ hd dd ?_
  have q := (rel.val k).isSome_eq
  rw [Option.isSome_map] at q
  rw [← q]
  exact h _ (I.tok _)
theorem n_notIn {Q : Value → Shared → Prop} (hu : A.units + 2 < cLine) (I : Inv X pins σ H s) (n : NAt X.K H d L b k) (h : ∀ s', Inv X pins σ H s' → Q (.bool (!(valN L k).isSome)) s') : wpAny (model X.prog X.w) A (compareOp .NotIn (.ref b) (.ref d)) Q E s := by
  obtain ⟨z, hd, xs, rel, dd⟩ := nd_of I n.e n.ak
  refine PyProof.Rows.wpAny_notIn_heap (knd := nkKind (intKind X.prog X.w) (k.map side)) hu ⟨n.kb.at_ I, rfl⟩ hd dd ?_
  have q := (rel.val k).isSome_eq
  rw [Option.isSome_map] at q
  rw [← q]
  exact h _ (I.tok _)
theorem n_setItem {Q : Unit → Shared → Prop} (hu : A.units + 2 < cLine) (I : Inv X pins σ H s) (n : NAt X.K H d L b k) (hl : L.length < sizeLine) (rv : RelV v r) (h : ∀ s', Inv X pins σ (upd H d (ndH d (putN L k b v))) s' → Q () s') :
    wpAny (model X.prog X.w) A (setItem (.ref d) (.ref b) r) Q E s := by
  obtain ⟨z, hd, xs, rel, dd⟩ := nd_of I n.e n.ak
  have hz : xs.length ≤ sizeLine := by rw [← Paired.length rel]; exact z
  have hl' : (putN L k b v).length ≤ sizeLine := Nat.le_trans (putN_len L k b v) hl
  refine wpAny_setItem_heap (knd := nkKind (intKind X.prog X.w) (k.map side)) (hsz := hz) hu ⟨n.kb.at_ I, rfl⟩ dd fun h' dd' hs => h _ ?_
  have he : ∃ q, h'.get? d = some q := let ⟨q, _, _, hq, _⟩ := dd'; ⟨q, hq⟩
  exact d_write I (by rw [n.e]; exact True.intro) hs he (nkd_ok hl' hd (rel.put rv) dd')
end
def tNNew : TE := fun _ H Q => ∀ p, H p = none → Q (.ref p) (upd H p (ndH p []))
def tNGet (K : PySem.W.Frag) (td ty : TE) : TE := fun σ H Q => td σ H fun x H1 => ty σ H1 fun y H2 => ∃ d b L k v, x = .ref d ∧ y = .ref b ∧ NAt K H2 d L b k ∧ valN L k = some v ∧ Q v H2
def tNIn (K : PySem.W.Frag) (ty td : TE) : TE := fun σ H Q => ty σ H fun y H1 => td σ H1 fun x H2 => ∃ d b L k, x = .ref d ∧ y = .ref b ∧ NAt K H2 d L b k ∧ Q (.bl (valN L k).isSome) H2
def tNNotIn (K : PySem.W.Frag) (ty td : TE) : TE := fun σ H Q => ty σ H fun y H1 => td σ H1 fun x H2 => ∃ d b L k, x = .ref d ∧ y = .ref b ∧ NAt K H2 d L b k ∧ Q (.bl (!(valN L k).isSome)) H2
def sNPut (K : PySem.W.Frag) (td ty tv : TE) : TS := fun D σ H => tv σ H fun v H1 => td σ H1 fun x H2 => ty σ H2 fun y H3 => ∃ d b L k, x = .ref d ∧ y = .ref b ∧ NAt K H3 d L b k ∧ L.length < sizeLine ∧ D.nx σ (upd H3 d (ndH d (putN L k b v)))
section
variable {X : Cx} {o i e value : Expr} {pos pos' tpos : Pos} {td ty tv : TE}
theorem nd_empty {P : Program} {w : World} {H : Hp} (h : Heap) (hb : sysModules < h.objs.size) : ObjOk P w H (h.push { cls := .type "dict", data := .dict #[] }) h.objs.size (ndH h.objs.size []) :=
  nkd_ok (sh := []) (xs := []) (Nat.zero_le _) (beq_eq_false_iff_ne.mpr (Ne.symm (Nat.ne_of_lt hb))) .nil (Heap.DictOfH.new h)
theorem pe_nnew : PE X (.Dict [] [] pos) tNNew := ⟨fun pins s σ H Q I h =>
  wpAny_Dict_empty ⟨.ref s.heap.objs.size, _, I.laid (a := s.heap.objs.size) (o := ndH s.heap.objs.size []) (t' := s.toks) (fun _ _ q => Heap.get?_push_of_some _ q) (Nat.le_refl _) (nd_empty s.heap I.big), rfl, h _ (I.hok.fresh (Nat.le_refl _))⟩⟩
theorem pc_nin (hu : X.A.units + 2 < cLine) (hi : PE X i ty) (ho : PE X o td) : PC X .In i o (tNIn X.K ty td) := by
  refine ⟨fun pins s σ H Q I h => ?_⟩
  refine thn (hi.run pins s σ H _ I h) fun iv s1 ⟨y, H1, I1, ry, q1⟩ => thn (ho.run pins s1 σ H1 _ I1 q1) fun u s2 ⟨x, H2, I2, rx, d, b, L, k, ex, ey, n, q2⟩ => ?_
  subst ex ey
  obtain rfl : u = Value.ref d := rx
  obtain rfl : iv = Value.ref b := ry
  exact n_in hu I2 n fun s3 I3 => ⟨.bl (valN L k).isSome, H2, I3, rfl, q2⟩
theorem pc_nnotin (hu : X.A.units + 2 < cLine) (hi : PE X i ty) (ho : PE X o td) : PC X .NotIn i o (tNNotIn X.K ty td) := by
  refine ⟨fun pins s σ H Q I h => ?_⟩
  refine thn (hi.run pins s σ H _ I h) fun iv s1 ⟨y, H1, I1, ry, q1⟩ => thn (ho.run pins s1 σ H1 _ I1 q1) fun u s2 ⟨x, H2, I2, rx, d, b, L, k, ex, ey, n, q2⟩ => ?_
  subst ex ey
  obtain rfl : u = Value.ref d := rx
  obtain rfl : iv = Value.ref b := ry
  exact n_notIn hu I2 n fun s3 I3 => ⟨.bl (!(valN L k).isSome), H2, I3, rfl, q2⟩
theorem ps_nput (hu : X.A.units + 2 < cLine) (ho : PE X o td) (hi : PE X i ty) (hv : PE X value tv) (hs : swapsWith value (some (.Subscript o i pos')) pos.line X.env = pure false) :
    PS X (.Assign [.Subscript o i pos'] value pos) (sNPut X.K td ty tv) := by
  refine ⟨fun pins s σ H D I h => ?_⟩
  refine wpAny_Assign_Subscript (thn (hv.run pins s σ H _ I h) fun r s1 ⟨v, H1, I1, rv, q1⟩ => thn (ho.run pins s1 σ H1 _ I1 q1) fun u s2 ⟨x, H2, I2, rx, q2⟩ => thn (hi.run pins s2 σ H2 _ I2 q2) fun iv s3 ⟨y, H3, I3, ry, d, b, L, k, ex, ey, n, hl, q3⟩ => ?_) hs
  subst ex ey
  obtain rfl : u = Value.ref d := rx
  obtain rfl : iv = Value.ref b := ry
  exact n_setItem hu I3 n hl rv fun s4 I4 => ⟨σ, _, I4, q3⟩
end
end GL
namespace GL
open PySem PySem.Spec PyProof.Rows L2
class NKey (α : Type) extends Py α where
  key : α → NKy
  inj : ∀ {x y : α}, key x = key y → x = y
  sh : List Bool
  shp : ∀ x : α, (key x).map side = sh
  at_ : ∀ {K : Fg} {S : Hp} {v : V} {x : α}, Py.rep K S v x → ∃ b, v = .ref b ∧ KeyV K S (key x) b
theorem KeyV.mono {K : Fg} {S S' : Hp} (e : Same S S') {k : NKy} {a : Addr} (h : KeyV K S k a) : KeyV K S' k a := by
  obtain ⟨vs, h1, h2⟩ := h
  refine ⟨vs, seqT e h1, ?_⟩
  clear h1
  revert vs
  induction k with
  | nil =>
    intro vs h2
    cases vs with
    | nil => exact True.intro
    | cons _ _ => exact h2.elim
  | cons k ks ih =>
    intro vs h2
    cases vs with
    | nil => cases k <;> exact h2.elim
    | cons v vs =>
      refine ⟨?_, ih vs h2.2⟩
      have h3 := h2.1
      cases k with
      | inl n => exact h3
      | inr l =>
        obtain ⟨b, e1, hb⟩ := h3
        exact ⟨b, e1, seqT e hb⟩
theorem tp_key {K : Fg} {S : Hp} {v : V} {x : Tp Int} (r : Py.rep K S v x) : ItV K S (.inr x.l) v := by
  obtain ⟨p, vs, rfl, hp, hr⟩ := r
  rw [hr.ints] at hp
  exact ⟨p, rfl, hp⟩
instance : NKey (Int × Int) where
  key x := [.inl x.1, .inl x.2]
  inj {x y} h := by
    simp only [List.cons.injEq, Sum.inl.injEq, and_true] at h
    exact Prod.ext h.1 h.2
  sh := [true, true]
  shp _ := rfl
  at_ r := by
    obtain ⟨p, a, b, rfl, hp, ra, rb⟩ := r
    exact ⟨p, rfl, _, hp, ra, rb, True.intro⟩
instance : NKey (Int × Tp Int) where
  key x := [.inl x.1, .inr x.2.l]
  inj {x y} h := by
    simp only [List.cons.injEq, Sum.inl.injEq, Sum.inr.injEq, and_true] at h
    obtain ⟨a, ⟨b⟩⟩ := x
    obtain ⟨c, ⟨d⟩⟩ := y
    obtain ⟨h1, h2⟩ := h
    dsimp only at h1 h2
    rw [h1, h2]
  sh := [true, false]
  shp _ := rfl
  at_ r := by
    obtain ⟨p, a, b, rfl, hp, ra, rb⟩ := r
    exact ⟨p, rfl, _, hp, ra, tp_key rb, True.intro⟩
instance : NKey (T4 Int Int (Tp Int) (Tp Int)) where
  key x := [.inl x.a, .inl x.b, .inr x.c.l, .inr x.d.l]
  inj {x y} h := by
    simp only [List.cons.injEq, Sum.inl.injEq, Sum.inr.injEq, and_true] at h
    obtain ⟨a, b, ⟨c⟩, ⟨d⟩⟩ := x
    obtain ⟨a', b', ⟨c'⟩, ⟨d'⟩⟩ := y
    obtain ⟨h1, h2, h3, h4⟩ := h
    dsimp only at h1 h2 h3 h4
    rw [h1, h2, h3, h4]
  sh := [true, true, false, false]
  shp _ := rfl
  at_ r := by
    obtain ⟨p, a, b, c, d, rfl, hp, ra, rb, rc, rd⟩ := r
    exact ⟨p, rfl, _, hp, ra, rb, tp_key rc, tp_key rd, True.intro⟩
structure DN (α β : Type) where
  l : List (α × β)
namespace DN
variable {α β : Type} [DecidableEq α]
def get? (d : DN α β) (k : α) : Option β := (d.l.find? fun e => decide (e.1 = k)).map (·.2)
def put (d : DN α β) (k : α) (x : β) : DN α β := ⟨if (d.get? k).isSome = true then d.l.map (fun e => if e.1 = k then (e.1, x) else e) else d.l ++ [(k, x)]⟩
def emp : DN α β := ⟨[]⟩
theorem put_len (d : DN α β) (k : α) (x : β) : (d.put k x).l.length ≤ d.l.length + 1 := by
  unfold put
  dsimp only
  split
  · rw [List.length_map]; omega
  · rw [List.length_append]; exact Nat.le_refl _
end DN
section
variable {α β : Type} [NKey α] [Py β] [DecidableEq α] {K : Fg} {S S' H H' : Hp}
def RepN (K : Fg) (S : Hp) : NL → List (α × β) → Prop
  | [], [] => True
  | e :: L, x :: xs => (e.1 = NKey.key x.1 ∧ Py.rep K S (.ref e.2.1) x.1 ∧ Py.rep K S e.2.2 x.2) ∧ RepN K S L xs
  | _, _ => False
theorem RepN.mono (e : Same S S') : ∀ {L : NL} {xs : List (α × β)}, RepN K S L xs → RepN K S' L xs
  | [], [], _ => True.intro
  | _ :: _, _ :: _, h => ⟨⟨h.1.1, Py.mono e h.1.2.1, Py.mono e h.1.2.2⟩, RepN.mono e h.2⟩
  | [], _ :: _, h => h.elim
  | _ :: _, [], h => h.elim
theorem RepN.len : ∀ {L : NL} {xs : List (α × β)}, RepN K S L xs → L.length = xs.length
  | [], [], _ => rfl
  | _ :: L, _ :: xs, h => by rw [List.length_cons, List.length_cons, RepN.len h.2]
  | [], _ :: _, h => h.elim
  | _ :: _, [], h => h.elim
theorem key_dec (x y : α) : decide ((NKey.key x : NKy) = NKey.key y) = decide (x = y) := by
  by_cases e : x = y
  · rw [e]; simp
  · rw [decide_eq_false e, decide_eq_false fun q => e (NKey.inj q)]
theorem RepN.val (k : α) : ∀ {L : NL} {xs : List (α × β)}, RepN K S L xs → match (xs.find? fun e => decide (e.1 = k)).map (·.2) with
    | some y => ∃ v, valN L (NKey.key k) = some v ∧ Py.rep K S v y
    | none => valN L (NKey.key k) = none
  | [], [], _ => rfl
  | e :: L, x :: xs, h => by
    have ed : decide (e.1 = NKey.key k) = decide (x.1 = k) := by rw [h.1.1, key_dec]
    unfold valN
    rw [List.find?_cons, List.find?_cons, ed]
    by_cases c : x.1 = k
    · rw [decide_eq_true c]
      exact ⟨e.2.2, rfl, h.1.2.2⟩
    · rw [decide_eq_false c]
      exact RepN.val k h.2
  | [], _ :: _, h => h.elim
  | _ :: _, [], h => h.elim
theorem RepN.isSome {d : DN α β} {L : NL} (h : RepN K S L d.l) (k : α) : (valN L (NKey.key k)).isSome = (d.get? k).isSome := by
  have := h.val k
  unfold DN.get?
  revert this
  cases (d.l.find? fun e => decide (e.1 = k)).map (·.2) with
  | none => intro q; rw [show valN L (NKey.key k) = none from q]; rfl
  | some y => intro ⟨v, q, _⟩; rw [q]; rfl
theorem RepN.put {d : DN α β} {L : NL} (h : RepN K S L d.l) {k : α} {y : β} {a : Addr} {v : V} (ra : Py.rep K S (.ref a) k) (rv : Py.rep K S v y) : RepN K S (putN L (NKey.key k) a v) (d.put k y).l := by
  unfold putN DN.put
  rw [h.isSome k]
  dsimp only
  by_cases c : (d.get? k).isSome = true
  · rw [if_pos c, if_pos c]
    clear c
    revert h
    generalize d.l = xs
    revert xs
    induction L with
    | nil =>
      intro xs h
      cases xs with
      | nil => exact True.intro
      | cons _ _ => exact h.elim
    | cons e L ih =>
      intro xs h
      cases xs with
      | nil => exact h.elim
      | cons x xs =>
        refine ⟨?_, ih xs h.2⟩
        by_cases q : x.1 = k
        · have q' : e.1 = NKey.key k := by rw [h.1.1, q]
          dsimp only
          rw [if_pos q, if_pos q']
          exact ⟨h.1.1, h.1.2.1, rv⟩
        · have q' : ¬ e.1 = NKey.key k := by rw [h.1.1]; exact fun z => q (NKey.inj z)
          dsimp only
          rw [if_neg q, if_neg q']
          exact h.1
  · rw [if_neg c, if_neg c]
    clear c
    revert h
    generalize d.l = xs
    revert xs
    induction L with
    | nil =>
      intro xs h
      cases xs with
      | nil => exact ⟨⟨rfl, ra, rv⟩, True.intro⟩
      | cons _ _ => exact h.elim
    | cons e L ih =>
      intro xs h
      cases xs with
      | nil => exact h.elim
      | cons x xs => exact ⟨h.1, ih xs h.2⟩
theorem RepN.all (e : Same S H) : ∀ {L : NL} {xs : List (α × β)}, RepN K S L xs → AllK K H (NKey.sh α) L
  | [], [], _ => fun _ h => nomatch h
  | e1 :: L, x :: xs, h => fun q hq => by
    rcases List.mem_cons.mp hq with rfl | hq
    · obtain ⟨b, eb, hk⟩ := NKey.at_ h.1.2.1
      cases eb
      exact ⟨by rw [h.1.1]; exact hk.mono e, by rw [h.1.1]; exact NKey.shp _⟩
    · exact RepN.all e h.2 q hq
  | [], _ :: _, h => h.elim
  | _ :: _, [], h => h.elim
instance : Own (DN α β) := ⟨fun K S H v ps x => ∃ p L, v = .ref p ∧ ps = [p] ∧ H p = some (ndH p L) ∧ RepN K S L x.l, fun {K S S' H H' v ps x} e a ⟨p, L, h1, h2, h3, h4⟩ =>
  ⟨p, L, h1, h2, by rw [a p (by rw [h2]; exact List.mem_singleton.mpr rfl)]; exact h3, h4.mono e⟩⟩
end
section
variable {α β : Type} [NKey α] [Py β] [DecidableEq α] {K : Fg} {B S0 S1 S S' D : Hp} {σ : L2.St} {H H' : Hp} {F : Nat → List Addr} {G G' G1 G2 G3 : List Sl} {ta tb te : TE} {i j : Nat} {t u : TS} {E : Ends} {d d' : DN α β} {k : α} {y : β}
theorem own_nd (kn : Kn K B S0 S σ H F G) (hi : G[i]? = some (.ow d)) : ∃ p L, σ[i]? = some (some (.ref p)) ∧ F i = [p] ∧ H p = some (ndH p L) ∧ RepN K S L d.l := by
  obtain ⟨v, h1, p, L, rfl, h2, h3, h4⟩ := kn.ow hi
  exact ⟨p, L, h1, h2, h3, h4⟩
theorem nat_at {p : Addr} {L : NL} {v : V} (e : Same S H) (hp : H p = some (ndH p L)) (hr : RepN (α := α) (β := β) K S L d.l) (rk : Py.rep K S v k) : ∃ b, v = .ref b ∧ NAt K H p L b (NKey.key k) := by
  obtain ⟨b, eb, hk⟩ := NKey.at_ rk
  exact ⟨b, eb, hp, by rw [NKey.shp]; exact hr.all e, hk.mono e⟩
theorem q_nnew (α β : Type) [NKey α] [Py β] [DecidableEq α] (hi : G[i]?.isSome = true) (q : At K B S0 (u E) (G.set i (.ow (DN.emp : DN α β)))) : At K B S0 (tSeq (tAsg tNNew (gName i)) u E) G := fun S σ H F kn => by
  intro p hp
  have k2 := kn.raw (o := ndH p []) hp
  exact q S _ _ _ (k2.setOwn (v := .ref p) ⟨p, [], rfl, rfl, upd_same, True.intro⟩ hi (kn.free hp).1 (kn.free hp).2.1 ⟨_, upd_same⟩ (kn.free hp).2.2)
theorem ev_nin (hk : EvX K ta G k G1) (hi : G1[i]? = some (.ow d)) : EvX K (tNIn K ta (tVar i)) G (d.get? k).isSome G1 := fun B S0 S σ H F kn Q q =>
  hk B S0 S σ H F kn _ fun v S1 H1 e1 k1 r1 => by
    obtain ⟨p, L, h1, h2, h3, h4⟩ := own_nd k1 hi
    obtain ⟨b, rfl, n⟩ := nat_at (α := α) (β := β) k1.sub h3 h4 r1
    exact ⟨.ref p, h1, p, b, L, NKey.key k, rfl, rfl, n, q _ S1 H1 e1 k1 (by rw [h4.isSome]; rfl)⟩
theorem ev_nnotin (hk : EvX K ta G k G1) (hi : G1[i]? = some (.ow d)) : EvX K (tNNotIn K ta (tVar i)) G (!(d.get? k).isSome) G1 := fun B S0 S σ H F kn Q q =>
  hk B S0 S σ H F kn _ fun v S1 H1 e1 k1 r1 => by
    obtain ⟨p, L, h1, h2, h3, h4⟩ := own_nd k1 hi
    obtain ⟨b, rfl, n⟩ := nat_at (α := α) (β := β) k1.sub h3 h4 r1
    exact ⟨.ref p, h1, p, b, L, NKey.key k, rfl, rfl, n, q _ S1 H1 e1 k1 (by rw [h4.isSome]; rfl)⟩
def nix [Inhabited β] (d : DN α β) (k : α) : β := (d.get? k).getD default
theorem q_nput (h : EvX K te G y G1) (hl1 : G1[i]? = some (.ow d')) (hk : EvX K tb G1 k G2) (hl : G2[i]? = some (.ow d)) (hz : d.l.length < sizeLine) (q : At K B S0 (u E) (G2.set i (.ow (d.put k y)))) :
    At K B S0 (tSeq (sNPut K (tVar i) tb te) u E) G := fun S σ H F kn =>
  h B S0 S σ H F kn _ fun v S1 H1 e1 k1 r1 => by
    obtain ⟨p0, L0, g1, _⟩ := own_nd k1 hl1
    refine ⟨.ref p0, g1, hk B S0 S1 σ H1 F k1 _ fun w S2 H2 e2 k2 r2 => ?_⟩
    obtain ⟨p, L, h1, h2, h3, h4⟩ := own_nd k2 hl
    rw [g1] at h1
    cases h1
    obtain ⟨b, rfl, n⟩ := nat_at (α := α) (β := β) k2.sub h3 h4 r2
    refine ⟨p0, b, L, NKey.key k, rfl, rfl, n, by rw [h4.len]; exact hz, q S2 σ _ (upF F i [p0]) (k2.moved (v0 := .ref p0) (ps' := [p0]) hl g1 (Same.refl _) (fun a o e => ?_) (fun a o ha e => ?_) (fun _ _ _ _ => rfl) (fun a ha => ?_) ⟨p0, _, rfl, rfl, upd_same, h4.put r2 (Py.mono e2 r1)⟩)⟩
    · have ne : a ≠ p0 := fun z => by
        have := (k2.off i p0 (by rw [h2]; exact List.mem_singleton.mpr rfl)).1
        rw [z, this] at e
        cases e
      rw [upd_ne ne]
      exact k2.sub a o e
    · have ne : a ≠ p0 := fun z => ha (by rw [h2, z]; exact List.mem_singleton.mpr rfl)
      rw [upd_ne ne]
      exact e
    · have ea := List.mem_singleton.mp ha
      subst ea
      exact ⟨(k2.off i a (by rw [h2]; exact List.mem_singleton.mpr rfl)).1, ⟨_, upd_same⟩, .inl (by rw [h2]; exact List.mem_singleton.mpr rfl)⟩
end
theorem hu2_of {k : Nat} {A : Around} (hr : Room k A) : A.units + 2 < cLine := by
  have := hr.un
  omega
instance {α β : Type} [Py α] [Py β] [ToD α] [ToD β] : ToD (Sum α β) := ⟨fun x => match x with | .inl y => ToD.dat y | .inr y => ToD.dat y, fun {K S v x} h => by
  cases x with
  | inl y => exact ToD.of (x := y) h
  | inr y => exact ToD.of (x := y) h⟩
section
variable {K : Fg} {B S0 : Hp} {G G1 : List Sl} {tt : TT} {b : Bool} {t w u : TS} {E : Ends}
end
def ItGW {α τ : Type} [Py α] (K : Fg) (wi : TI) (G : List Sl) (R : τ → Prop) (xs : τ → List α) (st : τ → List Sl) : Prop :=
  ∀ B S0 S σ H F, Kn K B S0 S σ H F G → ∀ Q : It → Hp → Prop, (∀ w, R w → ∀ J S' H', Same S S' → Kn K B S0 S' σ H' F (st w) → Wk K J S' (xs w) → Q J H') → wi σ H Q
section
variable {α τ ρ : Type} [Py α] {K : Fg} {B S0 : Hp} {G : List Sl} {wi : TI} {R : τ → Prop} {xs : τ → List α} {st : τ → List Sl} {g : TG} {tb u : TS} {E : Ends} {te : TE}
end
end GL
namespace GL
open PySem PySem.Spec PyProof.Rows L2
abbrev Rule := T5 Int Int (Option Int) Int (Option Int)
instance {α β γ δ ε : Type} [Inhabited α] [Inhabited β] [Inhabited γ] [Inhabited δ] [Inhabited ε] : Inhabited (T5 α β γ δ ε) := ⟨⟨default, default, default, default, default⟩⟩
section
variable {α β γ δ ε : Type} [Py α] [Py β] [Py γ] [Py δ] [Py ε]
instance [Dt α] [Dt β] [Dt γ] [Dt δ] [Dt ε] : Dt (T5 α β γ δ ε) := ⟨fun x => .tuple [Dt.dat x.a, Dt.dat x.b, Dt.dat x.c, Dt.dat x.d, Dt.dat x.e], fun z ⟨p, a, b, c, d, e, h1, h2, h3, h4, h5, h6, h7⟩ => by rw [h1]; exact .tup (seqT z h2) (.cons (Dt.dp z h3) (.cons (Dt.dp z h4) (.cons (Dt.dp z h5) (.cons (Dt.dp z h6) (.cons (Dt.dp z h7) .nil))))),
  fun x => by simp [PyData.canLay0, PyData.canLayAll0, Dt.lay], max (Dt.dep α) (max (Dt.dep β) (max (Dt.dep γ) (max (Dt.dep δ) (Dt.dep ε)))) + 1, fun x => by
    have h1 := Dt.dle x.a
    have h2 := Dt.dle x.b
    have h3 := Dt.dle x.c
    have h4 := Dt.dle x.d
    have h5 := Dt.dle x.e
    simp only [PyData.depth, PyData.depthAll]
    omega, fun x y => by
    simp only [PyData.eqv, PyData.eqvAll, Bool.and_eq_true, Dt.eq, and_true]
    cases x; cases y; simp⟩
end
abbrev Book := T4 (Tp Bool) (Tp Bool) Int (Tp Rule)
def stirM (c k : Int) : Int :=
  let a := (c % 998244353 + 104729 * (k + 1)) % 1000000007
  let b := a * a % 2147483647
  let d := (b * 48271 + 7907 * (k + 2)) % 2147483647
  d * d % 1000000007 / 16
def someStep (great : Bool) (cell : Int) (st : List Int × Int) (k : Int) : List Int × Int :=
  if (great && decide (0 < st.2)) = true then (st.1 ++ [st.2 % 10007], st.2 / 10007) else (st.1 ++ [stirM cell k], st.2)
def someB (cell many : Int) : List Int := ((rng 0 many).foldl (someStep (decide (10 ^ Int.toNat 18 ≤ absI cell)) cell) ([], absI cell)).1
def cellB (l : List Int) (k : Int) : Int := if k < (l.length : Int) then ix l k else 53 * k + 11 + (l.length : Int)
def chainStep (letters : Int) (rs : List Rule) (t : Int) : List Rule := rs ++ [⟨t % 2, t, none, t + 1, some (t / 2 % letters)⟩] ++ [⟨1 - t % 2, t, some (t / 2 % letters), t + 1, none⟩]
def chainM (turns letters : Int) : List Rule := (rng 0 turns).foldl (chainStep letters) []
def ruleM (s : List Int) (many : Int × Int) (letters : Int) : Rule :=
  ⟨ix s 0 % 2, ix s 5 % pixI many (ix s 0 % 2), ix [none, none, some (ix s 1 % letters)] (ix s 2 % 3), ix s 6 % pixI many (ix s 0 % 2), ix [none, some (ix s 3 % letters)] (ix s 4 % 2)⟩
structure RuleOk (many : Int × Int) (letters : Int) (r : Rule) : Prop where
  house : 0 ≤ r.a ∧ r.a < 2
  at_ : 0 ≤ r.b ∧ r.b < pixI many r.a
  heard : ∀ x, r.c = some x → 0 ≤ x ∧ x < letters
  to : 0 ≤ r.d ∧ r.d < pixI many r.a
  said : ∀ x, r.e = some x → 0 ≤ x ∧ x < letters
structure BookOk (b : Book) : Prop where
  old : 1 ≤ b.a.l.length ∧ b.a.l.length ≤ 50
  new : 1 ≤ b.b.l.length ∧ b.b.l.length ≤ 50
  letters : 0 ≤ b.c ∧ b.c ≤ 25
  many : b.d.l.length ≤ 100
  rules : ∀ r ∈ b.d.l, RuleOk ((b.a.l.length : Int), (b.b.l.length : Int)) b.c r
theorem someStep_len {g : Bool} {c : Int} {st : List Int × Int} {k : Int} : (someStep g c st k).1.length = st.1.length + 1 := by unfold someStep; split <;> simp
theorem someF_len {g : Bool} {c : Int} : ∀ (xs : List Int) (st : List Int × Int), (xs.foldl (someStep g c) st).1.length = st.1.length + xs.length := fun xs => by
  induction xs with
  | nil => intro st; simp
  | cons x xs ih => intro st; rw [List.foldl_cons, ih, someStep_len, List.length_cons]; omega
theorem someB_len {c m : Int} : (someB c m).length = m.toNat := by unfold someB; rw [someF_len, len_rng]; simp
theorem modB {a m : Int} (h : 0 < m) : 0 ≤ a % m ∧ a % m < m := ⟨Int.emod_nonneg _ (by omega), Int.emod_lt_of_pos _ h⟩
theorem pixI_le {x : Int × Int} {n o : Int} (h1 : o ≤ x.1) (h2 : o ≤ x.2) : o ≤ pixI x n := by unfold pixI; split <;> assumption
theorem ruleM_ok {s : List Int} {many : Int × Int} {l : Int} (h1 : 1 ≤ many.1) (h2 : 1 ≤ many.2) (hl : 1 ≤ l) : RuleOk many l (ruleM s many l) := by
  have hm : 0 < pixI many (ix s 0 % 2) := pixI_le (o := 1) h1 h2
  have h3 := modB (a := ix s 2) (m := 3) (by decide)
  have h4 := modB (a := ix s 4) (m := 2) (by decide)
  refine ⟨modB (by decide), modB hm, fun x hx => ?_, modB hm, fun x hx => ?_⟩
  · rcases (show ix s 2 % 3 = 0 ∨ ix s 2 % 3 = 1 ∨ ix s 2 % 3 = 2 by omega) with e | e | e <;> simp only [ruleM, e] at hx
    · cases hx
    · cases hx
    · cases hx; exact modB hl
  · rcases (show ix s 4 % 2 = 0 ∨ ix s 4 % 2 = 1 by omega) with e | e <;> simp only [ruleM, e] at hx
    · cases hx
    · cases hx; exact modB hl
theorem RuleOk.mono {m m' : Int × Int} {l l' : Int} {r : Rule} (h : RuleOk m l r) (h1 : m.1 ≤ m'.1) (h2 : m.2 ≤ m'.2) (h3 : l ≤ l') : RuleOk m' l' r := by
  have q : pixI m r.a ≤ pixI m' r.a := by unfold pixI; split <;> assumption
  exact ⟨h.house, ⟨h.at_.1, by have := h.at_.2; omega⟩, fun x e => ⟨(h.heard x e).1, by have := (h.heard x e).2; omega⟩, ⟨h.to.1, by have := h.to.2; omega⟩, fun x e => ⟨(h.said x e).1, by have := (h.said x e).2; omega⟩⟩
theorem chainF_ok {l : Int} {many : Int × Int} (hl : 1 ≤ l) : ∀ (xs : List Int) (rs : List Rule), (∀ t ∈ xs, 0 ≤ t ∧ t + 1 < many.1 ∧ t + 1 < many.2) → (∀ r ∈ rs, RuleOk many l r) →
    (∀ r ∈ xs.foldl (chainStep l) rs, RuleOk many l r) ∧ (xs.foldl (chainStep l) rs).length = rs.length + 2 * xs.length := fun xs => by
  induction xs with
  | nil => intro rs _ h; exact ⟨h, by simp⟩
  | cons t xs ih =>
    intro rs hx h
    obtain ⟨t0, t1, t2⟩ := hx t (List.mem_cons_self ..)
    have hm : ∀ n, t + 1 < pixI many n := fun n => pixI_le (o := t + 1 + 1) t1 t2
    have h2 := modB (a := t) (m := 2) (by decide)
    have hk := modB (a := t / 2) (m := l) hl
    have q := ih (chainStep l rs t) (fun y hy => hx y (List.mem_cons_of_mem _ hy)) fun r hr => by
      unfold chainStep at hr
      rcases List.mem_append.mp hr with hr | hr
      · rcases List.mem_append.mp hr with hr | hr
        · exact h r hr
        · rw [List.mem_singleton.mp hr]
          exact ⟨h2, ⟨t0, by have := hm (t % 2); dsimp only; omega⟩, fun x e => (nomatch e), ⟨by dsimp only; omega, hm _⟩, fun x e => by cases e; exact hk⟩
      · rw [List.mem_singleton.mp hr]
        exact ⟨by dsimp only; omega, ⟨t0, by have := hm (1 - t % 2); dsimp only; omega⟩, fun x e => by cases e; exact hk, ⟨by dsimp only; omega, hm _⟩, fun x e => nomatch e⟩
    refine ⟨q.1, ?_⟩
    rw [List.foldl_cons, q.2]
    unfold chainStep
    simp only [List.length_append, List.length_cons, List.length_nil]
    omega
theorem chainM_ok {t l : Int} {many : Int × Int} (hl : 1 ≤ l) (h1 : t + 1 ≤ many.1) (h2 : t + 1 ≤ many.2) : (∀ r ∈ chainM t l, RuleOk many l r) ∧ (chainM t l).length = 2 * t.toNat := by
  have q := chainF_ok (many := many) hl (rng 0 t) [] (fun y hy => by have := mem_rng.mp hy; omega) (fun r hr => nomatch hr)
  refine ⟨q.1, ?_⟩
  rw [show chainM t l = (rng 0 t).foldl (chainStep l) [] from rfl, q.2, len_rng]
  simp
theorem some_sz {g : Bool} {c : Int} {f f0 : List Int} {l l0 k m : Int} {pre post : List Int} (h : (f, l) = pre.foldl (someStep g c) (f0, l0)) (hf : f0 = []) (e : pre ++ k :: post = rng 0 m) (hm : m ≤ 1000) : f.length < 1000 ∧ 0 ≤ k ∧ k ≤ 1000 := by
  have hl := congrArg List.length e
  rw [len_rng, List.length_append, List.length_cons] at hl
  have hk := mem_rng.mp (show k ∈ rng 0 m by rw [← e]; simp)
  have q := someF_len (g := g) (c := c) pre (f0, l0)
  rw [← h, hf] at q
  simp only [List.length_nil] at q
  exact ⟨by omega, by omega, by omega⟩
theorem chain_sz {l t m : Int} {rs rs0 : List Rule} {pre post : List Int} (h : rs = pre.foldl (chainStep l) rs0) (h0 : rs0 = []) (e : pre ++ t :: post = rng 0 m) (hm : m ≤ 100) : rs.length < 1000 ∧ 0 ≤ t := by
  have hl := congrArg List.length e
  rw [len_rng, List.length_append, List.length_cons] at hl
  have hk := mem_rng.mp (show t ∈ rng 0 m by rw [← e]; simp)
  have q : ∀ (xs : List Int) (rs : List Rule), (xs.foldl (chainStep l) rs).length = rs.length + 2 * xs.length := fun xs => by
    induction xs with
    | nil => intro rs; simp
    | cons x xs ih => intro rs; rw [List.foldl_cons, ih]; unfold chainStep; simp only [List.length_append, List.length_cons, List.length_nil]; omega
  have q2 := q pre rs0
  rw [← h, h0] at q2
  simp only [List.length_nil] at q2
  exact ⟨by omega, by omega⟩
theorem lt_lineK {n : Nat} (h : n < 1000) : n < sizeLine := Nat.lt_of_lt_of_le h (by decide)
theorem cut_at {α : Type} {xs : List α} {a b : Int} (ha : 0 ≤ a) (hb : a ≤ b) (hb2 : b ≤ xs.length) : (cutL xs (some a) (some b)).length = (b - a).toNat := by
  unfold cutL HT.sIx
  dsimp only
  rw [if_neg (by omega), if_neg (by omega), List.length_take, List.length_drop]
  omega
theorem and_ne {α : Type} [DecidableEq α] {b : Bool} {rs : List α} (h : (b && !decide (rs = [])) = true) : 0 < rs.length := by
  cases rs with
  | nil => simp at h
  | cons x xs => simp
theorem pop_ok {m : Int × Int} {l : Int} {rs : List Rule} {k n : Nat} (h : (∀ r ∈ rs, RuleOk m l r) ∧ rs.length ≤ n) : (∀ r ∈ rs.eraseIdx k, RuleOk m l r) ∧ (rs.eraseIdx k).length ≤ n :=
  ⟨fun r hr => h.1 r (List.mem_of_mem_eraseIdx hr), Nat.le_trans (List.length_eraseIdx_le ..) h.2⟩
theorem insL_ok {m : Int × Int} {l i : Int} {rs : List Rule} {x : Rule} {n : Nat} (h : (∀ r ∈ rs, RuleOk m l r) ∧ rs.length ≤ n) (hx : RuleOk m l x) : (∀ r ∈ insL rs i x, RuleOk m l r) ∧ (insL rs i x).length ≤ n + 1 :=
  ⟨fun r hr => (mem_insL hr).elim (fun e => by rw [e]; exact hx) (h.1 r), by rw [insL_len]; omega⟩
theorem enum_pre {α : Type} {xs : List α} {lo hi : Option Int} {pre post : List (Int × α)} {it : Int × α} (e : pre ++ it :: post = enumI (cutL xs lo hi)) (h : xs.length ≤ 63) : pre.length < 63 := by
  have hl := congrArg List.length e
  rw [len_enumI, List.length_append, List.length_cons] at hl
  have := cutL_len (xs := xs) (lo := lo) (hi := hi)
  omega
theorem book_ok {old new : List Bool} {many : Int × Int} {l k : Int} {rs : List Rule} (h : ∀ r ∈ rs, RuleOk many l r) (hn : rs.length ≤ 100) (ho : (old.length : Int) = many.1) (hw : (new.length : Int) = many.2) (hm : 1 ≤ many.1 ∧ many.1 ≤ 50 ∧ 1 ≤ many.2 ∧ many.2 ≤ 50) (hl : 1 ≤ l ∧ l ≤ 3) (hk : 0 ≤ k ∧ k < 2) :
    BookOk ⟨⟨old⟩, ⟨new⟩, l + k, ⟨rs⟩⟩ :=
  ⟨by dsimp only; omega, by dsimp only; omega, by dsimp only; omega, hn, fun r hr => (h r hr).mono (by dsimp only; omega) (by dsimp only; omega) (by dsimp only; omega)⟩
def standsD (d : Dat) : Bool := d.isT && ((decide (1 ≤ (d.items.length : Int)) && decide ((d.items.length : Int) ≤ 50)) && d.items.all Dat.isBl)
end GL
namespace GL
open PySem PySem.Spec PyProof.Rows L2
instance : Inhabited RSt := ⟨firstS⟩
@[irreducible] def withLet (l : List Int) (said : Option Int) : List Int := if (said.isNone || decide (said.getD default ∈ l)) = true then l else srt (l ++ [said.getD default])
@[irreducible] def canM (s : RSt) (r : Rule) : Bool := decide (t4i s r.a = r.b) && (r.c.isNone || decide (r.c.getD default ∈ (t4j s (3 - r.a)).l))
@[irreducible] def comesM (s : RSt) (r : Rule) : RSt := if r.a = 0 then ⟨r.d, s.b, ⟨withLet s.c.l r.e⟩, s.d⟩ else ⟨s.a, r.d, s.c, ⟨withLet s.d.l r.e⟩⟩
theorem comes_list {s : RSt} {r : Rule} (h : 0 ≤ r.a ∧ r.a < 2) : ((sl4 s).set r.a.toNat (.inl r.d)).set (2 + r.a).toNat (.inr ⟨withLet (t4j s (2 + r.a)).l r.e⟩) = sl4 (comesM s r) := by
  rcases (show r.a = 0 ∨ r.a = 1 by omega) with e | e
  · rw [e]; unfold comesM t4j; rw [if_pos e]; rfl
  · unfold comesM t4j; rw [e, if_neg (by decide : ¬ (2 + 1 : Int) = 2), if_neg (by decide : ¬ (1 : Int) = 0)]; rfl
theorem sl4_len (s : RSt) : (sl4 s).length = 4 := rfl
structure LtsOk (n : Int) (l : List Int) : Prop where
  so : l.Pairwise (· < ·)
  bd : ∀ x ∈ l, 0 ≤ x ∧ x < n
theorem rising_len {n : Int} : ∀ {l : List Int} {a : Int}, l.Pairwise (· < ·) → (∀ x ∈ l, a ≤ x ∧ x < n) → (l.length : Int) ≤ max 0 (n - a)
  | [], _, _, _ => by simp; omega
  | x :: l, a, h, hb => by
    obtain ⟨h1, h2⟩ := List.pairwise_cons.mp h
    have h3 := hb x List.mem_cons_self
    have q := rising_len (n := n) (l := l) (a := x + 1) h2 fun y hy => ⟨by have := h1 y hy; omega, (hb y (List.mem_cons_of_mem _ hy)).2⟩
    rw [List.length_cons]
    omega
theorem LtsOk.len {n : Int} {l : List Int} (h : LtsOk n l) (hn : 0 ≤ n) : (l.length : Int) ≤ n := by
  have := rising_len (n := n) (l := l) (a := 0) h.so h.bd
  omega
theorem srt_strict {l : List Int} {x : Int} (h : l.Pairwise (· < ·)) (hx : x ∉ l) : (srt (l ++ [x])).Pairwise (· < ·) := by
  have hn : (srt (l ++ [x])).Nodup := by
    rw [(srt_perm _).nodup_iff, List.nodup_append]
    exact ⟨h.imp fun q => by omega, by simp, fun a ha b hb => by
      rw [List.mem_singleton.mp hb]
      exact fun e => hx (e ▸ ha)⟩
  have hs := srt_sorted (l ++ [x])
  exact (List.pairwise_and_iff.mpr ⟨hs, hn⟩).imp fun q => by omega
theorem withLet_ok {n : Int} {l : List Int} {o : Option Int} (h : LtsOk n l) (ho : ∀ x, o = some x → 0 ≤ x ∧ x < n) : LtsOk n (withLet l o) := by
  unfold withLet
  split
  · exact h
  · rename_i c
    cases o with
    | none => simp at c
    | some x =>
      simp only [Option.isNone_some, Option.getD_some, Bool.false_or, decide_eq_true_eq] at c ⊢
      refine ⟨srt_strict h.so c, fun y hy => ?_⟩
      have := (srt_perm (l ++ [x])).mem_iff.mp hy
      rcases List.mem_append.mp this with q | q
      · exact h.bd y q
      · rw [List.mem_singleton.mp q]; exact ho x rfl
structure StOk (b : Book) (s : RSt) : Prop where
  old : 0 ≤ s.a ∧ s.a < (b.a.l.length : Int)
  new : 0 ≤ s.b ∧ s.b < (b.b.l.length : Int)
  lo : LtsOk b.c s.c.l
  ln : LtsOk b.c s.d.l
theorem first_ok {b : Book} (h : BookOk b) : StOk b firstS := by
  have h1 := h.old
  have h2 := h.new
  exact ⟨⟨by decide, by show (0 : Int) < _; omega⟩, ⟨by decide, by show (0 : Int) < _; omega⟩, ⟨List.Pairwise.nil, fun x q => nomatch q⟩, ⟨List.Pairwise.nil, fun x q => nomatch q⟩⟩
theorem comes_ok {b : Book} {s : RSt} {r : Rule} (h : BookOk b) (hs : StOk b s) (hr : r ∈ b.d.l) : StOk b (comesM s r) := by
  have q := h.rules r hr
  unfold comesM
  by_cases e : r.a = 0
  · rw [if_pos e]
    have ht := q.to
    rw [e] at ht
    exact ⟨ht, hs.new, withLet_ok hs.lo q.said, hs.ln⟩
  · rw [if_neg e]
    have ht := q.to
    have e1 : r.a = 1 := by have := q.house; omega
    rw [e1] at ht
    exact ⟨hs.old, ht, hs.lo, withLet_ok hs.ln q.said⟩
theorem StOk.few {b : Book} {s : RSt} (h : BookOk b) (hs : StOk b s) : s.c.l.length ≤ 25 ∧ s.d.l.length ≤ 25 := by
  have h1 := h.letters
  have h2 := hs.lo.len h1.1
  have h3 := hs.ln.len h1.1
  omega
def stepOk (b : Book) (s : RSt) (one : Dat) : Bool := btwD one 0 ((b.d.l.length : Int) - 1) && canM s (ix b.d.l one.toI)
def alongB (b : Book) (acc : List RSt) (one : Dat) : Fl (List RSt) (Option (List RSt)) := if stepOk b (lastI acc) one = true then .nx (acc ++ [comesM (lastI acc) (ix b.d.l one.toI)]) else .rt none
@[irreducible] def alongM (b : Book) (steps : List Dat) : Option (List RSt) := forL (alongB b) some steps [firstS]
@[irreducible] def standX (b : Book) (steps : List Dat) : XC ⊕ RSt := match alongM b steps with | none => .inl .noStep | some l => .inr (lastI l)
theorem step_no {b : Book} {s : RSt} {one : Dat} (h : (!btwD one 0 ((b.d.l.length : Int) - 1) || !canM s (ix b.d.l one.toI)) = true) : stepOk b s one = false := by
  unfold stepOk
  revert h
  generalize btwD one 0 ((b.d.l.length : Int) - 1) = x
  generalize canM s (ix b.d.l one.toI) = y
  cases x <;> cases y <;> intro h <;> first | rfl | cases h
theorem step_yes {b : Book} {s : RSt} {one : Dat} (h : (!btwD one 0 ((b.d.l.length : Int) - 1) || !canM s (ix b.d.l one.toI)) = false) : stepOk b s one = true := by
  unfold stepOk
  revert h
  generalize btwD one 0 ((b.d.l.length : Int) - 1) = x
  generalize canM s (ix b.d.l one.toI) = y
  cases x <;> cases y <;> intro h <;> first | rfl | cases h
theorem along_rt {b : Book} {acc : List RSt} {one : Dat} (h : stepOk b (lastI acc) one = false) : alongB b acc one = .rt none := by unfold alongB; rw [if_neg (by rw [h]; decide)]
theorem along_nx {b : Book} {acc : List RSt} {one : Dat} (h : stepOk b (lastI acc) one = true) : alongB b acc one = .nx (acc ++ [comesM (lastI acc) (ix b.d.l one.toI)]) := by unfold alongB; rw [if_pos h]
theorem btw_at {one : Dat} {n : Nat} (h : btwD one 0 ((n : Int) - 1) = true) : one.isInt = true ∧ 0 ≤ one.toI ∧ one.toI < (n : Int) := by
  unfold btwD at h
  simp only [Bool.and_eq_true, decide_eq_true_eq] at h
  exact ⟨h.1, h.2.1, by omega⟩
theorem ix_memR {rs : List Rule} {n : Int} (h : 0 ≤ n ∧ n < (rs.length : Int)) : ix rs n ∈ rs := List.mem_of_getElem? (ix_at h.1 h.2)
structure AccOk (b : Book) (n : Nat) (acc : List RSt) : Prop where
  len : acc.length = n + 1
  ok : ∀ s ∈ acc, StOk b s
theorem AccOk.last {b : Book} {n : Nat} {acc : List RSt} (h : AccOk b n acc) : StOk b (lastI acc) := by
  refine h.ok _ (List.mem_of_getElem? (ix_at (by have := h.len; omega) (by omega)))
theorem AccOk.next {b : Book} {n : Nat} {acc : List RSt} {one : Dat} (hb : BookOk b) (h : AccOk b n acc) (hs : stepOk b (lastI acc) one = true) : AccOk b (n + 1) (acc ++ [comesM (lastI acc) (ix b.d.l one.toI)]) := by
  refine ⟨by rw [List.length_append, h.len]; rfl, fun s hs' => ?_⟩
  rcases List.mem_append.mp hs' with q | q
  · exact h.ok s q
  · rw [List.mem_singleton.mp q]
    unfold stepOk at hs
    exact comes_ok hb h.last (ix_memR (btw_at (Bool.and_eq_true_iff.mp hs).1).2)
theorem AccOk.start {b : Book} (hb : BookOk b) : AccOk b 0 [firstS] := ⟨rfl, fun s hs => by rw [List.mem_singleton.mp hs]; exact first_ok hb⟩
theorem along_ok {b : Book} (hb : BookOk b) : ∀ (steps : List Dat) (n : Nat) (acc l : List RSt), AccOk b n acc → forL (alongB b) some steps acc = some l → AccOk b (n + steps.length) l
  | [], n, acc, l, h, e => by
    unfold forL at e
    cases e
    exact h
  | x :: xs, n, acc, l, h, e => by
    unfold forL at e
    by_cases c : stepOk b (lastI acc) x = true
    · rw [along_nx c] at e
      have q := along_ok hb xs (n + 1) _ l (h.next hb c) e
      rw [List.length_cons, show n + (xs.length + 1) = n + 1 + xs.length by omega]
      exact q
    · rw [along_rt (by simpa using c)] at e
      cases e
theorem alongM_ok {b : Book} {steps : List Dat} {l : List RSt} (hb : BookOk b) (e : alongM b steps = some l) : AccOk b steps.length l := by
  unfold alongM at e
  have := along_ok hb steps 0 _ l (AccOk.start hb) e
  rw [Nat.zero_add] at this
  exact this
theorem getD_some {α : Type} {o : Option α} {d : α} (h : o.isSome = true) : o = some (o.getD d) := by cases o with | none => cases h | some x => rfl
theorem isNone_false {α : Type} {o : Option α} (h : o.isNone = false) : o.isSome = true := by cases o with | none => cases h | some x => rfl
end GL
namespace L2
open PySem PySem.W PySem.Spec PyProof.Rows
set_option maxHeartbeats 1000000 in
theorem meets_enumT {v : Value} {ob : Obj} {Hh : Heap → Prop} (Bg : Begins v ob Hh) :
    Meets (Builtin.«enumerate.__new__» ⟨[.type "enumerate", v], []⟩) (fun _ R s => Hh s.heap ∧
      R (.ok (.ret (.ref (s.heap.push ob).objs.size))) { s with heap := (s.heap.push ob).push { cls := .type "enumerate", data := .fields #[.none, .bool false, .ref s.heap.objs.size, rawInt 0, .none, .none] } }) :=
  .of_wp fun pr ww AA R s hyp => by
    obtain ⟨h0, g0, d0, t0, o0⟩ := s
    obtain ⟨hh1, hyp⟩ := hyp
    have hsb := sub_enumerate
    have step1 : ∀ {A1 : Around} {E1 : Value → Shared → Prop} {Q1 : Value → Shared → Prop}, Q1 (.ref h0.objs.size) ⟨h0.push ob, g0, d0, t0, o0⟩ → wpAny (model pr ww) A1 (pyIter v) Q1 E1 ⟨h0, g0, d0, t0, o0⟩ :=
      fun qq => Bg.iter pr ww _ _ ⟨h0, g0, d0, t0, o0⟩ _ hh1 qq
    wp_walk using step1
    refine wpAny_stack_any fun stk => wpAny_pure ?_
    split
    · rename_i cc _ _ _ _ _
      cases (cc == Value.type "enumerate")
      · wp_walk using step1
        exact ⟨_, rfl, hyp⟩
      · wp_walk using step1
        exact ⟨_, rfl, hyp⟩
    · wp_walk using step1
      exact ⟨_, rfl, hyp⟩
section
variable {pr : Program} {ww : World} {AA : Around} {EE : Value → Shared → Prop} {s : Shared}
theorem call_enumT {v : Value} {ob : Obj} {Hh : Heap → Prop} {Q : Value → Shared → Prop} (Bg : Begins v ob Hh) (hh1 : Hh s.heap)
    (hyp : ∀ hp, IsEnum hp (s.heap.objs.size + 1) s.heap.objs.size 0 .none → hp.get? s.heap.objs.size = some ob → hp.objs.size = s.heap.objs.size + 2 →
      (∀ b q, s.heap.get? b = some q → hp.get? b = some q) → Q (.ref (s.heap.objs.size + 1)) { s with heap := hp }) : wpAny (model pr ww) AA (call (.type "enumerate") [v]) Q EE s := by
  refine callType_new F.called_enumerate (by decide) (F.typeCall_enumerate_1 _) (F.newCall_enumerate_1 _) (fun oj => F.args_object_init_2 oj _) F.entry_enumerate_new (meets_enumT Bg) ⟨hh1, ?_⟩
  have zs : (s.heap.push ob).objs.size = s.heap.objs.size + 1 := Heap.size_push ..
  show _ ∧ _
  rw [zs]
  have en : IsEnum ((s.heap.push ob).push { cls := .type "enumerate", data := .fields #[.none, .bool false, .ref s.heap.objs.size, rawInt 0, .none, .none] }) (s.heap.objs.size + 1) s.heap.objs.size 0 .none := by
    have z2 := Heap.get?_push_size (s.heap.push ob) (o := { cls := .type "enumerate", data := .fields #[.none, .bool false, .ref s.heap.objs.size, rawInt 0, .none, .none] }) rfl
    rw [zs] at z2; exact z2
  refine ⟨⟨_, en, rfl⟩, hyp _ en (Heap.get?_push_of_some _ (Heap.get?_push_size _ Bg.free)) (by rw [Heap.size_push, zs]) fun b q y => Heap.get?_push_of_some _ (Heap.get?_push_of_some _ y)⟩
theorem next_enumT_end {e it t : Addr} {i : Nat} {items : Array Value} {c : Int} {old : Value} {Q : Option Value → Shared → Prop} (hh : AA.handled = none) (he : IsEnum s.heap e it c old) (hit : s.heap.IsTupleIter it t i) (ht : s.heap.IsTuple t items) (hx : items[i]? = none)
    (hQ : ∀ hp, Heap.ExtBut it s.heap hp → Q none { s with heap := hp }) : wpAny (model pr ww) AA (pyNext (.ref e)) Q EE s := by
  have tyE : s.TypeIs (.ref e) "enumerate" := ⟨_, he, rfl⟩
  unfold pyNext
  refine wpAny_bind (wpAny_attempt (wpAny_callSpecial?_slot (name := Str.ofString "__next__") tyE F.slot_enumerate_next (wpAny_call_entry F.slot_enumerate_next tyE F.entry_enumerate_next ?_ (F.args_enumerate_next_1 _))))
  show wpAny _ _ (field (.ref e) 2 >>= _) _ _ _
  refine wpAny_bind (wpAny_field he rfl (x := .ref it) rfl ?_)
  refine wpAny_bind (wpAny_nextOf_tuple_end (A := AA.in1) hh hit ht hx fun hp x xb so => ?_)
  obtain ⟨ob, gb, cb⟩ := so
  exact wpAny_bind (wpAny_isInstance (T := "StopIteration") (b := true) ⟨ob, gb, cb⟩ isSubtype_stop (wpAny_pure (hQ _ xb)))
end
def IteT (K : PySem.W.Frag) (a : Addr) (ws : List V) : It :=
  ⟨fun i H => SqT K H a ws ∧ ∃ x, ws[i]? = some x, fun i H v H' => ∃ T x, v = .ref T ∧ H T = none ∧ H' = upd H T (.tup [.int (i : Nat), x]) ∧ ws[i]? = some x, fun i H => SqT K H a ws ∧ ws.length ≤ i⟩
theorem turn_enumT {P : Program} {w : World} {K : PySem.W.Frag} {elts : List Expr} {kk : Nat} {tpos : Pos} (a e it : Addr) (ws : List V) :
    Turn P w K (.Tuple elts kk tpos) (IteT K a ws) [e, it] e (fun i h => (∃ old, IsEnum h e it ((i : Nat) : Int) old) ∧ h.IsTupleIter it a i ∧ e ≠ it ∧ e ≠ a ∧ a ≠ it) where
  mem := by simp
  obj := fun i h st b hb => by
    obtain ⟨⟨old, he⟩, ⟨oi, gi, ci, di⟩, _⟩ := st
    rcases (show b = e ∨ b = it by simpa using hb) with z | z
    · rw [z]; exact ⟨_, he, fun v q => nomatch q⟩
    · rw [z]; exact ⟨oi, gi, fun v q => by rw [di] at q; cases q⟩
  keep := fun i h h' st k => by
    obtain ⟨⟨old, he⟩, hi, n1, n2, n3⟩ := st
    exact ⟨⟨old, k e (by simp) _ he⟩, hi.at fun q y => k it (by simp) q y, n1, n2, n3⟩
  item := by
    intro X pP pw pK hc i pins s σ H E I hf st hg
    subst pP pw pK
    obtain ⟨⟨old, he⟩, hit, n1, n2, n3⟩ := st
    obtain ⟨hq, x, hx⟩ := hg
    obtain ⟨its, rv, ip, hz⟩ := I.tuple hq
    obtain ⟨u, hu, ru⟩ := rv.get hx
    have le_e : e < s.heap.objs.size := Heap.lt_size he
    have le_i : it < s.heap.objs.size := by obtain ⟨_, y, _⟩ := hit; exact Heap.lt_size y
    have lti : i < its.toArray.size := by
      have := (List.getElem?_eq_some_iff.mp hu).1
      simpa using this
    refine wpAny_pyNext_enum_itemD (Draws.tuple (A := X.A.in1) (I.ok.hd hc) it a n3 its.toArray) he ⟨hit, ip⟩ lti n1 (by simp [n1, n2]) fun v hp tk pv eo st2 gT sz kp => ?_
    have ev : v = u := by
      have e1 : its[i]? = some v := by simpa using pv
      rw [hu] at e1
      exact (Option.some.inj e1).symm
    subst ev
    refine ⟨_, rfl, wpAny_letOwnedTupleGo_enum (s := { s with heap := hp, toks := tk + 1 }) eo fun hq2 he2 sb => ?_⟩
    have gT2 : hq2.get? s.heap.objs.size = some { cls := .type "tuple", data := .seq #[.int i tk, v] } := (sb.2 _ (Nat.ne_of_gt le_e)).trans gT
    have okT : ObjOk X.prog X.w (upd H s.heap.objs.size (.tup [.int (i : Nat), x])) hq2 s.heap.objs.size (.tup [.int (i : Nat), x]) :=
      ⟨by show 2 ≤ sizeLine; decide, [.int i tk, v], .cons ⟨_, rfl⟩ (.cons ru .nil), ⟨_, gT2, rfl, _, rfl⟩⟩
    have I1 : Inv X pins σ (upd H s.heap.objs.size (.tup [.int (i : Nat), x])) { s with heap := hq2, toks := tk + 1 } :=
      I.turnedNew (ch := [e, it]) (fun b ob hb y => (sb.2 b (fun z => hb (by simp [z]))).trans (kp b ob (fun z => hb (by simp [z])) (fun z => hb (by simp [z])) y)) hf (Nat.le_refl _) okT
    refine ⟨.ref s.heap.objs.size, _, I1, rfl, ⟨_, x, rfl, I.hok.fresh (Nat.le_refl _), rfl, hx⟩, ⟨⟨v, ?_⟩, st2.1.at fun q y => (sb.2 it n1.symm).trans y, n1, n2, n3⟩, fun b hb => ?_⟩
    · rw [show ((i + 1 : Nat) : Int) = (i : Int) + 1 by omega]; exact he2
    · have lb : b < s.heap.objs.size := by
        rcases (show b = e ∨ b = it by simpa using hb) with z | z
        · rw [z]; exact le_e
        · rw [z]; exact le_i
      rw [upd_ne (Nat.ne_of_lt lb)]
      exact (hf b hb).1
  done := by
    intro X pP pw pK hc i pins s σ H E I hf st hg
    subst pP pw pK
    obtain ⟨⟨old, he⟩, hit, n1, n2, n3⟩ := st
    obtain ⟨hq, hx⟩ := hg
    obtain ⟨its, rv, ip, hz⟩ := I.tuple hq
    obtain ⟨f0, f1, f2, f3, f4, f5⟩ := hf it (by simp)
    have ll := rv.length
    exact next_enumT_end (I.ok.hd hc) he hit ip (by simp; omega) fun hp xb => ⟨rfl, I.turned (t' := s.toks) (fun b q hb y => xb b q hb y) f0 f1 f3 f4 f5⟩
  self := fun A i s Q E st h => by
    obtain ⟨⟨_, he⟩, _⟩ := st
    exact wpAny_pyIter_enum he h
def iEnumT (K : PySem.W.Frag) (ta : TA) : TI := fun σ H R => ta σ H fun vs H1 => ∃ a ws, vs = [.ref a] ∧ SqT K H1 a ws ∧ R (IteT K a ws) H1
theorem pi_enumT {X : Cx} {e : Expr} {ta : TA} {p pos tpos : Pos} {elts : List Expr} {kk : Nat} (hg : Gl X "enumerate") (hm : X.mg "enumerate" = none) (ha : PA X [e] ta) (hs : starEach [e] X.env = [(false, eval e X.env)] := by rfl) :
    PI X (.Tuple elts kk tpos) (.Call (.Name "enumerate" p) [e] [] pos) (iEnumT X.K ta) := by
  refine ⟨fun pins s σ H R I h => ?_⟩
  refine Call_ (ld_blt I hg hm boot_enumerate (PyProof.Rows.callWith_type1 (thn (ha.run pos pins s σ H _ I h) fun us s1 ⟨vs, H1, I1, r1, q1⟩ => ?_) hs rfl))
  obtain ⟨a, ws, rfl, hq, q⟩ := q1
  cases r1 with
  | cons r rr =>
    cases rr
    cases r
    obtain ⟨its, rv, ip, hz⟩ := I1.tuple hq
    have la : a < s1.heap.objs.size := by
      obtain ⟨o, go, _⟩ := (show s1.heap.IsTuple a its.toArray from ip)
      exact Heap.lt_size go
    refine call_enumT (begins_tuple a its.toArray) ip fun hp he gi sz kp => wpAny_pyIter_enum he ?_
    have I2 : Inv X pins σ H1 { s1 with heap := hp } := I1.kept (t' := s1.toks) kp
    refine ⟨s1.heap.objs.size + 1, [s1.heap.objs.size + 1, s1.heap.objs.size], _, _, H1, rfl, I2, turn_enumT a (s1.heap.objs.size + 1) s1.heap.objs.size ws, ⟨⟨.none, he⟩, ⟨_, gi, rfl, rfl⟩, Nat.succ_ne_self _, Nat.ne_of_gt (Nat.lt_succ_of_lt la), Nat.ne_of_lt la⟩, fun b hb => ?_, q⟩
    have lb : s1.heap.objs.size ≤ b := by
      rcases (show b = s1.heap.objs.size + 1 ∨ b = s1.heap.objs.size by simpa using hb) with z | z
      · rw [z]; exact Nat.le_add_right _ _
      · rw [z]; exact Nat.le_refl _
    exact I1.fpOk lb (I1.hok.fresh lb)
end L2
namespace GL
open PySem PySem.Spec PyProof.Rows L2
section
variable {α : Type} [Py α] {K : Fg} {G G1 : List Sl} {ta : TE}
theorem wk_enumT {S : Hp} {p : Addr} {vs : List V} {xs : List α} (hp : SqT K S p vs) (r : RepL K S vs xs) : Wk K (IteT K p vs) S (enumI xs) := fun S' H' i e1 e2 => by
  have h1 : SqT K H' p vs := seqT e2 (seqT e1 hp)
  have hlen : (enumI xs).length = xs.length := by unfold enumI; rw [List.length_map, List.length_zipIdx]
  refine ⟨fun x hx => ?_, fun hl => ⟨h1, by rw [r.len, ← hlen]; exact hl⟩⟩
  have hi : i < xs.length := by
    rw [← hlen]
    exact (List.getElem?_eq_some_iff.mp hx).1
  have ex : x = ((i : Int), xs[i]) := by
    unfold enumI at hx
    rw [List.getElem?_map, List.getElem?_zipIdx, List.getElem?_eq_getElem hi] at hx
    simpa using hx.symm
  subst ex
  obtain ⟨v, hv, rv⟩ := r.get (List.getElem?_eq_getElem hi)
  refine ⟨⟨h1, v, hv⟩, fun w H'' y => ?_⟩
  obtain ⟨T, u, rfl, hT, rfl, e⟩ := y
  rw [hv] at e
  cases e
  have g := Grow.new (o := .tup [.int (i : Nat), v]) e2 hT
  exact ⟨_, g, T, _, v, rfl, SqT.of upd_same, rfl, Py.mono (e1.trans g.s) rv⟩
theorem it_enumT {xs : Tp α} (h : EvX K ta G xs G1) : ItG K (iEnumT K (tCons ta tNil)) G (enumI xs.l) G1 := fun B S0 S σ H F k R q =>
  h B S0 S σ H F k _ fun v S1 H1 e1 k1 r1 => by
    obtain ⟨p, vs, rfl, hp, hr⟩ := r1
    exact ⟨p, vs, rfl, seqT k1.sub hp, q _ S1 H1 e1 k1 (wk_enumT hp hr)⟩
end
end GL
namespace GL
open PySem PySem.Spec PyProof.Rows L2
theorem comes_law1 {s : RSt} {r : Rule} (h : 0 ≤ r.a ∧ r.a < 2) (c : (r.e.isSome && !decide (r.e.getD default ∈ (t4j s (2 + r.a)).l)) = true) :
    ((sl4 s).set r.a.toNat (.inl r.d)).set (2 + r.a).toNat (.inr ⟨srt ((t4j s (2 + r.a)).l ++ [r.e.getD default])⟩) = sl4 (comesM s r) := by
  rw [← comes_list h]
  congr 3
  unfold withLet
  rw [if_neg]
  simp only [Bool.and_eq_true, Bool.not_eq_true', decide_eq_false_iff_not] at c
  intro z
  rcases Bool.or_eq_true_iff.mp z with z | z
  · rw [Option.isNone_iff_eq_none.mp z] at c; simp at c
  · exact c.2 (of_decide_eq_true z)
theorem setAt_same {α : Type} {l : List α} {n : Nat} {x : α} (h : l[n]? = some x) : l.set n x = l := by
  apply List.ext_getElem?
  intro j
  by_cases e : n = j
  · subst e
    rw [List.getElem?_set_self (List.getElem?_eq_some_iff.mp h).1, h]
  · rw [List.getElem?_set_ne e]
theorem comes_law2 {s : RSt} {r : Rule} (h : 0 ≤ r.a ∧ r.a < 2) (c : (r.e.isSome && !decide (r.e.getD default ∈ (t4j s (2 + r.a)).l)) = false) :
    (sl4 s).set r.a.toNat (.inl r.d) = sl4 (comesM s r) := by
  rw [← comes_list h]
  have e : withLet (t4j s (2 + r.a)).l r.e = (t4j s (2 + r.a)).l := by
    unfold withLet
    rw [if_pos]
    revert c
    cases r.e with
    | none => intro _; rfl
    | some x => simp
  rw [e]
  refine (setAt_same ?_).symm
  rcases (show r.a = 0 ∨ r.a = 1 by omega) with e | e
  · unfold t4j; rw [e]; rfl
  · unfold t4j; rw [e]; rfl
theorem due_step {d : Dat} {n : Int} : (d.isBl || (!d.isI || (decide (d.toI < 0) || decide (n ≤ d.toI)))) = !btwD d 0 (n - 1) := by
  unfold btwD
  cases d with
  | int i =>
    show (false || (!true || (decide (i < 0) || decide (n ≤ i)))) = !(true && (decide (0 ≤ i) && decide (i ≤ n - 1)))
    by_cases a : i < 0
    · rw [decide_eq_true a, decide_eq_false (show ¬ 0 ≤ i by omega)]; rfl
    · by_cases b : n ≤ i
      · rw [decide_eq_true b, decide_eq_false (show ¬ i ≤ n - 1 by omega)]; simp
      · rw [decide_eq_false a, decide_eq_false b, decide_eq_true (show 0 ≤ i by omega), decide_eq_true (show i ≤ n - 1 by omega)]; rfl
  | non => rfl
  | bl b => rfl
  | str s => rfl
  | tup l => rfl
  | lst l => rfl
theorem step_law {b : Book} {s : RSt} {one : Dat} (h1 : (one.isBl || (!one.isI || (decide (one.toI < 0) || decide (one.toI ≥ ((b.d.l.length : Nat) : Int))))) = false) (h2 : (!canM s (ix b.d.l one.toI)) = false) : stepOk b s one = true := by
  have e := due_step (d := one) (n := ((b.d.l.length : Nat) : Int))
  rw [show (decide (one.toI ≥ ((b.d.l.length : Nat) : Int))) = decide (((b.d.l.length : Nat) : Int) ≤ one.toI) from rfl] at h1
  rw [h1] at e
  unfold stepOk
  rw [(by simpa using h2 : canM s (ix b.d.l one.toI) = true)]
  simpa using e.symm
theorem step_law1 {b : Book} {s : RSt} {one : Dat} (h1 : (one.isBl || (!one.isI || (decide (one.toI < 0) || decide (one.toI ≥ ((b.d.l.length : Nat) : Int))))) = true) : stepOk b s one = false := by
  have e := due_step (d := one) (n := ((b.d.l.length : Nat) : Int))
  rw [show (decide (one.toI ≥ ((b.d.l.length : Nat) : Int))) = decide (((b.d.l.length : Nat) : Int) ≤ one.toI) from rfl] at h1
  rw [h1] at e
  unfold stepOk
  rw [(by simpa using e.symm : btwD one 0 (((b.d.l.length : Nat) : Int) - 1) = false)]
  rfl
theorem step_law2 {b : Book} {s : RSt} {one : Dat} (h2 : (!canM s (ix b.d.l one.toI)) = true) : stepOk b s one = false := by
  unfold stepOk
  rw [(by simpa using h2 : canM s (ix b.d.l one.toI) = false), Bool.and_false]
theorem step_in {n : Nat} {one : Dat} (h1 : (one.isBl || (!one.isI || (decide (one.toI < 0) || decide (one.toI ≥ (n : Int))))) = false) : 0 ≤ one.toI ∧ one.toI < (n : Int) := by
  simp only [Bool.or_eq_false_iff, decide_eq_false_iff_not] at h1
  omega
theorem step_int {one : Dat} {x : Bool} (h1 : (one.isBl || (!one.isI || x)) = false) : one.isInt = true := by
  simp only [Bool.or_eq_false_iff] at h1
  exact isInt_of (by simpa using h1.2.1) (by simpa using h1.1)
theorem can_bd {α : Type} {xs : List α} {f : Int × α → Bool} {x : Int} (h : x ∈ ((enumI xs).filter f).map fun p => p.1) : 0 ≤ x ∧ x < (xs.length : Int) := by
  obtain ⟨p, hp, e⟩ := List.mem_map.mp h
  have := mem_enumI.mp (List.mem_filter.mp hp).1
  have h2 := (List.getElem?_eq_some_iff.mp this.2).1
  omega
theorem ix_memI {xs : List Int} {n : Int} (h : 0 ≤ n ∧ n < (xs.length : Int)) : ix xs n ∈ xs := List.mem_of_getElem? (ix_at h.1 h.2)
theorem ne_len {α : Type} [DecidableEq α] {xs : List α} (h : decide (xs = []) = false) : 0 < xs.length := by
  cases xs with
  | nil => simp at h
  | cons x l => simp
theorem lastI_app {α : Type} [Inhabited α] {xs : List α} {x : α} : lastI (xs ++ [x]) = x := by
  unfold lastI ix
  rw [List.length_append, List.length_singleton, List.getD_eq_getElem?_getD]
  rw [show ((((xs.length + 1 : Nat) : Int)) - 1).toNat = xs.length by omega, List.getElem?_append_right (Nat.le_refl _), Nat.sub_self]
  rfl
def againB : Book := ⟨⟨[true]⟩, ⟨[false]⟩, 0, ⟨[⟨0, 0, none, 0, none⟩]⟩⟩
end GL
namespace GL
open PySem PySem.Spec PyProof.Rows L2
abbrev RRow := T3 RSt (Option Int) (Option Int)
instance : Inhabited RRow := ⟨⟨firstS, none, none⟩⟩
def exS (here : RSt) (fd : List RSt) (r : Rule) : List RSt := if canM here r = true then (if comesM here r ∈ fd then fd else fd ++ [comesM here r]) else fd
def exR (at_ : Int) (here : RSt) (fd : List RRow) (x : Int × Rule) : List RRow := if canM here x.2 = true then (if comesM here x.2 ∈ fd.map T3.a then fd else fd ++ [⟨comesM here x.2, some at_, some x.1⟩]) else fd
def nxS (b : Book) (fd : List RSt) (n : Nat) : List RSt := b.d.l.foldl (exS (ix fd (n : Int))) fd
def nxR (b : Book) (fd : List RRow) (n : Nat) : List RRow := (enumI b.d.l).foldl (exR (n : Int) (ix fd (n : Int)).a) fd
def Us (b : Book) (f : RSt) : Nat → List RSt
  | 0 => [f]
  | n + 1 => if n < (Us b f n).length then nxS b (Us b f n) n else Us b f n
def Ur (b : Book) (f : RSt) : Nat → List RRow
  | 0 => [⟨f, none, none⟩]
  | n + 1 => if n < (Ur b f n).length then nxR b (Ur b f n) n else Ur b f n
theorem exR_map {a : Int} {here : RSt} {fd : List RRow} {x : Int × Rule} : (exR a here fd x).map T3.a = exS here (fd.map T3.a) x.2 := by
  unfold exR exS
  by_cases c : canM here x.2 = true
  · rw [if_pos c, if_pos c]
    by_cases m : comesM here x.2 ∈ fd.map T3.a
    · rw [if_pos m, if_pos m]
    · rw [if_neg m, if_neg m, List.map_append]; rfl
  · rw [if_neg c, if_neg c]
theorem exR_maps {a : Int} {here : RSt} : ∀ (xs : List (Int × Rule)) (fd : List RRow), (xs.foldl (exR a here) fd).map T3.a = (xs.map Prod.snd).foldl (exS here) (fd.map T3.a)
  | [], _ => rfl
  | x :: xs, fd => by rw [List.foldl_cons, exR_maps xs, exR_map, List.map_cons, List.foldl_cons]
theorem enum_snd {α : Type} {xs : List α} : (enumI xs).map Prod.snd = xs := by
  unfold enumI
  rw [List.map_map]
  apply List.ext_getElem?
  intro n
  rw [List.getElem?_map, List.getElem?_zipIdx]
  cases xs[n]? <;> rfl
theorem ix_mapA {fd : List RRow} {n : Nat} (h : n < fd.length) : ix (fd.map T3.a) (n : Int) = (ix fd (n : Int)).a := by
  unfold ix
  rw [List.getD_eq_getElem?_getD, List.getD_eq_getElem?_getD, List.getElem?_map, Int.toNat_natCast, List.getElem?_eq_getElem h]
  rfl
theorem Ur_map {b : Book} {f : RSt} : ∀ n, (Ur b f n).map T3.a = Us b f n
  | 0 => rfl
  | n + 1 => by
    have ih := Ur_map (b := b) (f := f) n
    have hl : (Ur b f n).length = (Us b f n).length := by rw [← ih, List.length_map]
    unfold Ur Us
    by_cases c : n < (Ur b f n).length
    · rw [if_pos c, if_pos (by omega)]
      unfold nxR nxS
      rw [exR_maps, enum_snd, ih, ← ih, ix_mapA c]
    · rw [if_neg c, if_neg (by omega)]; exact ih
theorem Ur_len {b : Book} {f : RSt} {n : Nat} : (Ur b f n).length = (Us b f n).length := by rw [← Ur_map n, List.length_map]
theorem exS_pre {here : RSt} {fd : List RSt} {r : Rule} : fd <+: exS here fd r := by
  unfold exS
  split
  · split
    · exact List.prefix_refl _
    · exact List.prefix_append _ _
  · exact List.prefix_refl _
theorem exSs_pre {here : RSt} : ∀ (rs : List Rule) (fd : List RSt), fd <+: rs.foldl (exS here) fd
  | [], _ => List.prefix_refl _
  | r :: rs, fd => exS_pre.trans (exSs_pre rs _)
theorem exRs_len {a : Int} {here : RSt} (xs : List (Int × Rule)) (fd : List RRow) : fd.length ≤ (xs.foldl (exR a here) fd).length := by
  rw [← List.length_map (f := T3.a), ← List.length_map (f := T3.a) (as := xs.foldl _ _), exR_maps]
  exact (exSs_pre _ _).length_le
theorem Us_pre1 {b : Book} {f : RSt} {n : Nat} : Us b f n <+: Us b f (n + 1) := by
  show _ <+: (if n < (Us b f n).length then nxS b (Us b f n) n else Us b f n)
  split
  · exact exSs_pre _ _
  · exact List.prefix_refl _
theorem Us_pre {b : Book} {f : RSt} {n m : Nat} (h : n ≤ m) : Us b f n <+: Us b f m := by
  induction m with
  | zero => rw [Nat.le_zero.mp h]; exact List.prefix_refl _
  | succ m ih =>
    by_cases e : n = m + 1
    · rw [e]; exact List.prefix_refl _
    · exact (ih (by omega)).trans Us_pre1
theorem Us_fix {b : Book} {f : RSt} {n m : Nat} (h : n ≤ m) (hl : (Us b f n).length ≤ n) : Us b f m = Us b f n := by
  induction m with
  | zero => rw [Nat.le_zero.mp h]
  | succ m ih =>
    by_cases e : n = m + 1
    · rw [e]
    · have i := ih (by omega)
      show (if m < (Us b f m).length then nxS b (Us b f m) m else Us b f m) = _
      rw [if_neg (by rw [i]; omega)]
      exact i
def rchF (b : Book) (f : RSt) (limit : Int) : Nat → Nat → XC ⊕ List RRow
  | 0, n => .inr (Ur b f n)
  | k + 1, n => if n < (Ur b f n).length then (if limit < ((Ur b f (n + 1)).length : Int) then .inl .tooMany else rchF b f limit k (n + 1)) else .inr (Ur b f n)
@[irreducible] def rchM (b : Book) (f : RSt) (limit : Int) : XC ⊕ List RRow := rchF b f limit (limit.toNat + 1) 0
theorem rchF_inr {b : Book} {f : RSt} {limit : Int} : ∀ (k n : Nat) (rows : List RRow), (n : Int) + k = limit + 1 → n ≤ (Us b f n).length → ((Us b f n).length : Int) ≤ limit → rchF b f limit k n = .inr rows → ∃ m, rows = Ur b f m ∧ rows.length = m ∧ (m : Int) ≤ limit
  | 0, n, rows, e, h1, h2, _ => by omega
  | k + 1, n, rows, e, h1, h2, h => by
    unfold rchF at h
    rw [Ur_len] at h
    by_cases c : n < (Us b f n).length
    · rw [if_pos c] at h
      by_cases d : limit < ((Ur b f (n + 1)).length : Int)
      · rw [if_pos d] at h; cases h
      · rw [if_neg d] at h
        rw [Ur_len] at d
        have := (Us_pre1 (b := b) (f := f) (n := n)).length_le
        exact rchF_inr k (n + 1) rows (by omega) (by omega) (by omega) h
    · rw [if_neg c] at h
      cases h
      exact ⟨n, rfl, by rw [Ur_len]; omega, by omega⟩
theorem rchF_inl {b : Book} {f : RSt} {limit : Int} {e : XC} : ∀ (k n : Nat), rchF b f limit k n = .inl e → e = .tooMany ∧ ∃ m, limit < ((Us b f m).length : Int)
  | 0, n, h => by unfold rchF at h; cases h
  | k + 1, n, h => by
    unfold rchF at h
    split at h
    · split at h
      · cases h
        rename_i d
        rw [Ur_len] at d
        exact ⟨rfl, _, d⟩
      · exact rchF_inl k (n + 1) h
    · cases h
theorem rch_inr {b : Book} {f : RSt} {limit : Int} {rows : List RRow} (hl : 1 ≤ limit) (h : rchM b f limit = .inr rows) : ∃ m, rows = Ur b f m ∧ rows.length = m ∧ (m : Int) ≤ limit := by
  unfold rchM at h
  exact rchF_inr _ 0 rows (by omega) (Nat.zero_le _) (by show ((1 : Nat) : Int) ≤ limit; omega) h
theorem rch_inl {b : Book} {f : RSt} {limit : Int} {e : XC} (h : rchM b f limit = .inl e) : e = .tooMany ∧ ∃ m, limit < ((Us b f m).length : Int) := by
  unfold rchM at h
  exact rchF_inl _ _ h
def allF (b : Book) (f : RSt) (most : Int) : Nat → Nat → List RSt
  | 0, n => Us b f n
  | k + 1, n => if n < (Us b f n).length ∧ ((Us b f n).length : Int) ≤ most then allF b f most k (n + 1) else Us b f n
@[irreducible] def allM (b : Book) (most : Int) : List RSt := allF b firstS most (most.toNat + 1) 0
theorem allF_val {b : Book} {f : RSt} {most : Int} : ∀ (k n : Nat), (n : Int) + k = most + 1 → n ≤ (Us b f n).length → ∃ m, allF b f most k n = Us b f m ∧ ((Us b f m).length = m ∨ most < ((Us b f m).length : Int))
  | 0, n, e, h => ⟨n, rfl, .inr (by omega)⟩
  | k + 1, n, e, h => by
    unfold allF
    by_cases c : n < (Us b f n).length ∧ ((Us b f n).length : Int) ≤ most
    · rw [if_pos c]
      have := (Us_pre1 (b := b) (f := f) (n := n)).length_le
      exact allF_val k (n + 1) (by omega) (by omega)
    · rw [if_neg c]
      refine ⟨n, rfl, ?_⟩
      by_cases d : n < (Us b f n).length
      · exact .inr (by have : ¬ ((Us b f n).length : Int) ≤ most := fun z => c ⟨d, z⟩; omega)
      · exact .inl (by omega)
theorem all_val {b : Book} {most : Int} (hm : 0 ≤ most) : ∃ m, allM b most = Us b firstS m ∧ ((Us b firstS m).length = m ∨ most < ((Us b firstS m).length : Int)) := by
  unfold allM
  exact allF_val _ 0 (by omega) (Nat.zero_le _)
structure Term (b : Book) (f : RSt) (n : Nat) : Prop where
  e : (Us b f n).length = n
theorem Term.le {b : Book} {f : RSt} {n : Nat} (h : Term b f n) (m : Nat) : (Us b f m).length ≤ n := by
  by_cases c : m ≤ n
  · have := (Us_pre (b := b) (f := f) c).length_le
    rw [h.e] at this
    exact this
  · rw [Us_fix (by omega) (Nat.le_of_eq h.e), h.e]
    exact Nat.le_refl _
theorem Term.uniq {b : Book} {f : RSt} {n m : Nat} (h : Term b f n) (g : Term b f m) : n = m := by
  have h1 := h.le m
  have h2 := g.le n
  rw [h.e] at h2
  rw [g.e] at h1
  omega
theorem rch_term {b : Book} {f : RSt} {limit : Int} {n : Nat} (hl : 1 ≤ limit) (h : Term b f n) : (limit < (n : Int) ∧ rchM b f limit = .inl .tooMany) ∨ ((n : Int) ≤ limit ∧ rchM b f limit = .inr (Ur b f n)) := by
  cases e : rchM b f limit with
  | inl x =>
    obtain ⟨rfl, m, hm⟩ := rch_inl e
    have := h.le m
    exact .inl ⟨by omega, rfl⟩
  | inr rows =>
    obtain ⟨m, rfl, h1, h2⟩ := rch_inr hl e
    have g : Term b f m := ⟨by rw [← Ur_len]; exact h1⟩
    rw [h.uniq g]
    exact .inr ⟨h2, rfl⟩
theorem exS_in {here : RSt} {fd : List RSt} {r : Rule} (h : canM here r = true) : comesM here r ∈ exS here fd r := by
  unfold exS
  rw [if_pos h]
  split
  · assumption
  · exact List.mem_append_right _ List.mem_cons_self
theorem exSs_in {here : RSt} : ∀ (rs : List Rule) (fd : List RSt) {r : Rule}, r ∈ rs → canM here r = true → comesM here r ∈ rs.foldl (exS here) fd
  | q :: rs, fd, r, hr, hc => by
    rw [List.foldl_cons]
    rcases List.mem_cons.mp hr with rfl | hr
    · exact (exSs_pre rs _).subset (exS_in hc)
    · exact exSs_in rs _ hr hc
theorem exS_inv {P : RSt → Prop} {here : RSt} {fd : List RSt} {r : Rule} (h : ∀ s ∈ fd, P s) (hr : canM here r = true → P (comesM here r)) : ∀ s ∈ exS here fd r, P s := by
  unfold exS
  split
  · split
    · exact h
    · intro s hs
      rcases List.mem_append.mp hs with hs | hs
      · exact h s hs
      · rw [List.mem_singleton.mp hs]; exact hr (by assumption)
  · exact h
theorem exSs_inv {P : RSt → Prop} {here : RSt} : ∀ (rs : List Rule) (fd : List RSt), (∀ s ∈ fd, P s) → (∀ r ∈ rs, canM here r = true → P (comesM here r)) → ∀ s ∈ rs.foldl (exS here) fd, P s
  | [], _, h, _ => h
  | r :: rs, fd, h, hr => exSs_inv rs _ (exS_inv h (hr r List.mem_cons_self)) fun q hq => hr q (List.mem_cons_of_mem _ hq)
theorem exS_nd {here : RSt} {fd : List RSt} {r : Rule} (h : fd.Nodup) : (exS here fd r).Nodup := by
  unfold exS
  split
  · split
    · exact h
    · rename_i m
      exact List.nodup_append.mpr ⟨h, by simp, fun a ha b hb => by rw [List.mem_singleton.mp hb]; exact fun e => m (e ▸ ha)⟩
  · exact h
theorem exSs_nd {here : RSt} : ∀ (rs : List Rule) (fd : List RSt), fd.Nodup → (rs.foldl (exS here) fd).Nodup
  | [], _, h => h
  | r :: rs, fd, h => exSs_nd rs _ (exS_nd h)
theorem Us_nd {b : Book} {f : RSt} : ∀ n, (Us b f n).Nodup
  | 0 => by show [f].Nodup; simp
  | n + 1 => by
    show (if n < (Us b f n).length then nxS b (Us b f n) n else Us b f n).Nodup
    split
    · exact exSs_nd _ _ (Us_nd n)
    · exact Us_nd n
theorem Us_first {b : Book} {f : RSt} {n : Nat} : f ∈ Us b f n := (Us_pre (Nat.zero_le n)).subset List.mem_cons_self
theorem ix_inS {fd : List RSt} {n : Nat} (h : n < fd.length) : ix fd (n : Int) ∈ fd := List.mem_of_getElem? (ix_at (by omega) (by omega))
theorem Us_ok {b : Book} {f : RSt} (hb : BookOk b) (hf : StOk b f) : ∀ n, ∀ s ∈ Us b f n, StOk b s
  | 0 => fun s hs => by rw [List.mem_singleton.mp hs]; exact hf
  | n + 1 => by
    show ∀ s ∈ (if n < (Us b f n).length then nxS b (Us b f n) n else Us b f n), _
    split
    · exact exSs_inv _ _ (Us_ok hb hf n) fun r hr _ => comes_ok hb (Us_ok hb hf n _ (ix_inS (by assumption))) hr
    · exact Us_ok hb hf n
theorem Term.closed {b : Book} {f : RSt} {n : Nat} (h : Term b f n) {s : RSt} (hs : s ∈ Us b f n) {r : Rule} (hr : r ∈ b.d.l) (hc : canM s r = true) : comesM s r ∈ Us b f n := by
  obtain ⟨k, hk⟩ := List.getElem?_of_mem hs
  have hkn : k < n := by have := (List.getElem?_eq_some_iff.mp hk).1; rw [h.e] at this; exact this
  have hkl : k < (Us b f k).length := by
    by_cases c : k < (Us b f k).length
    · exact c
    · have := Us_fix (b := b) (f := f) (n := k) (m := n) (by omega) (by omega)
      have e := h.e
      rw [this] at e
      omega
  have e1 : ix (Us b f k) (k : Int) = s := by
    have h1 := ix_at (xs := Us b f k) (i := (k : Int)) (by omega) (by omega)
    rw [Int.toNat_natCast] at h1
    obtain ⟨t, ht⟩ := Us_pre (b := b) (f := f) (Nat.le_of_lt hkn)
    rw [← ht, List.getElem?_append_left hkl, h1] at hk
    exact Option.some.inj hk
  refine (Us_pre (b := b) (f := f) (n := k + 1) (m := n) (by omega)).subset ?_
  show comesM s r ∈ (if k < (Us b f k).length then nxS b (Us b f k) k else Us b f k)
  rw [if_pos hkl]
  unfold nxS
  rw [e1]
  exact exSs_in _ _ hr hc
def RowAt (b : Book) (fd : List RRow) (k : Nat) (row : RRow) : Prop := ∃ (p : Nat) (num : Int) (pr : RRow), row.b = some (p : Int) ∧ row.c = some num ∧ p < k ∧ fd[p]? = some pr ∧ 0 ≤ num ∧ num < (b.d.l.length : Int) ∧ canM pr.a (ix b.d.l num) = true ∧ row.a = comesM pr.a (ix b.d.l num)
structure RowsOk (b : Book) (f : RSt) (fd : List RRow) : Prop where
  z : fd[0]? = some ⟨f, none, none⟩
  s : ∀ k row, fd[k + 1]? = some row → RowAt b fd (k + 1) row
theorem RowAt.mono {b : Book} {fd fd' : List RRow} {k : Nat} {row : RRow} (h : RowAt b fd k row) (e : fd <+: fd') : RowAt b fd' k row := by
  obtain ⟨p, num, pr, h1, h2, h3, h4, h5⟩ := h
  obtain ⟨t, rfl⟩ := e
  exact ⟨p, num, pr, h1, h2, h3, by rw [List.getElem?_append_left (List.getElem?_eq_some_iff.mp h4).1]; exact h4, h5⟩
theorem exR_ok {b : Book} {f : RSt} {fd : List RRow} {n : Nat} {x : Int × Rule} {pr : RRow} (h : RowsOk b f fd) (hn : fd[n]? = some pr) (hx : x ∈ enumI b.d.l) : RowsOk b f (exR (n : Int) pr.a fd x) ∧ (exR (n : Int) pr.a fd x)[n]? = some pr := by
  unfold exR
  by_cases c : canM pr.a x.2 = true
  · rw [if_pos c]
    by_cases m : comesM pr.a x.2 ∈ fd.map T3.a
    · rw [if_pos m]; exact ⟨h, hn⟩
    · rw [if_neg m]
      have hl := (List.getElem?_eq_some_iff.mp hn).1
      refine ⟨⟨by rw [List.getElem?_append_left (by omega)]; exact h.z, fun k row hk => ?_⟩, by rw [List.getElem?_append_left hl]; exact hn⟩
      by_cases d : k + 1 < fd.length
      · rw [List.getElem?_append_left d] at hk
        exact (h.s k row hk).mono (List.prefix_append _ _)
      · have e : k + 1 = fd.length := by
          have := (List.getElem?_eq_some_iff.mp hk).1
          rw [List.length_append, List.length_singleton] at this
          omega
        rw [e, List.getElem?_append_right (Nat.le_refl _), Nat.sub_self] at hk
        cases hk
        obtain ⟨x0, x1, x2⟩ := enum_at' hx
        refine ⟨n, x.1, pr, rfl, rfl, by omega, by rw [List.getElem?_append_left hl]; exact hn, x0, x1, ?_, ?_⟩
        · rw [x2]; exact c
        · show comesM pr.a x.2 = _; rw [x2]
  · rw [if_neg c]; exact ⟨h, hn⟩
where
  enum_at' {α : Type} [Inhabited α] {xs : List α} {x : Int × α} (h : x ∈ enumI xs) : 0 ≤ x.1 ∧ x.1 < (xs.length : Int) ∧ ix xs x.1 = x.2 := by
    unfold enumI at h
    obtain ⟨⟨y, k⟩, hy, rfl⟩ := List.mem_map.mp h
    have h1 := List.mem_zipIdx hy
    have h2 := List.mk_mem_zipIdx_iff_getElem?.mp hy
    have h3 := (List.getElem?_eq_some_iff.mp h2).1
    refine ⟨by dsimp only; omega, by dsimp only; omega, ?_⟩
    have h4 := ix_at (xs := xs) (i := (k : Int)) (by omega) (by omega)
    rw [Int.toNat_natCast, h2] at h4
    exact (Option.some.inj h4).symm
theorem exRs_ok {b : Book} {f : RSt} {n : Nat} {pr : RRow} : ∀ (xs : List (Int × Rule)) (fd : List RRow), (∀ x ∈ xs, x ∈ enumI b.d.l) → RowsOk b f fd → fd[n]? = some pr → RowsOk b f (xs.foldl (exR (n : Int) pr.a) fd)
  | [], _, _, h, _ => h
  | x :: xs, fd, hx, h, hn => by
    rw [List.foldl_cons]
    have q := exR_ok h hn (hx x List.mem_cons_self)
    exact exRs_ok xs _ (fun y hy => hx y (List.mem_cons_of_mem _ hy)) q.1 q.2
theorem Ur_ok {b : Book} {f : RSt} : ∀ n, RowsOk b f (Ur b f n)
  | 0 => ⟨rfl, fun k row h => by cases h⟩
  | n + 1 => by
    show RowsOk b f (if n < (Ur b f n).length then nxR b (Ur b f n) n else Ur b f n)
    split
    · rename_i c
      have h1 := ix_at (xs := Ur b f n) (i := (n : Int)) (by omega) (by omega)
      rw [Int.toNat_natCast] at h1
      exact exRs_ok _ _ (fun _ h => h) (Ur_ok n) h1
    · exact Ur_ok n
def stepsF (fd : List RRow) : Nat → Int → List Int → List Int
  | 0, _, acc => acc
  | k + 1, at_, acc => if (ix fd at_).b.isSome = true then stepsF fd k ((ix fd at_).b.getD default) (acc ++ [(ix fd at_).c.getD default]) else acc
@[irreducible] def stepsM (fd : List RRow) (at_ : Int) : List Int := (stepsF fd (at_.toNat + 1) at_ []).reverse
theorem along_app {b : Book} : ∀ (xs : List Dat) (acc : List RSt) {x : Dat}, forL (alongB b) some (xs ++ [x]) acc = match forL (alongB b) some xs acc with | none => none | some l => if stepOk b (lastI l) x = true then some (l ++ [comesM (lastI l) (ix b.d.l x.toI)]) else none
  | [], acc, x => by
    show forL (alongB b) some [x] acc = if stepOk b (lastI acc) x = true then _ else _
    unfold forL
    by_cases c : stepOk b (lastI acc) x = true
    · rw [along_nx c, if_pos c]; rfl
    · rw [along_rt (by simpa using c), if_neg c]
  | y :: xs, acc, x => by
    rw [List.cons_append]
    unfold forL
    by_cases c : stepOk b (lastI acc) y = true
    · rw [along_nx c]; exact along_app xs _
    · rw [along_rt (by simpa using c)]
theorem along_snoc {b : Book} {xs : List Dat} {x : Dat} {l : List RSt} (h : alongM b xs = some l) (hx : stepOk b (lastI l) x = true) : alongM b (xs ++ [x]) = some (l ++ [comesM (lastI l) (ix b.d.l x.toI)]) := by
  unfold alongM at h ⊢
  rw [along_app, h]
  exact if_pos hx
theorem stepsF_acc {fd : List RRow} : ∀ (k : Nat) (at_ : Int) (acc : List Int), stepsF fd k at_ acc = acc ++ stepsF fd k at_ []
  | 0, _, acc => by unfold stepsF; simp
  | k + 1, at_, acc => by
    unfold stepsF
    split
    · rw [stepsF_acc k _ (acc ++ _), stepsF_acc k _ ([] ++ _), List.nil_append, List.append_assoc]
    · simp
theorem steps_path {b : Book} {fd : List RRow} (h : RowsOk b firstS fd) : ∀ (k : Nat) (at_ : Nat), at_ < k → at_ < fd.length → ∃ l, alongM b ((stepsF fd k (at_ : Int) []).reverse.map Dat.int) = some l ∧ lastI l = (ix fd (at_ : Int)).a
  | 0, _, h1, _ => by omega
  | k + 1, at_, h1, h2 => by
    have hr := ix_at (xs := fd) (i := (at_ : Int)) (by omega) (by omega)
    rw [Int.toNat_natCast] at hr
    cases at_ with
    | zero =>
      rw [h.z] at hr
      have e : ix fd ((0 : Nat) : Int) = ⟨firstS, none, none⟩ := (Option.some.inj hr).symm
      refine ⟨[firstS], ?_, by rw [e]; rfl⟩
      unfold stepsF
      rw [e]
      unfold alongM
      rfl
    | succ q =>
      obtain ⟨p, num, pr, e1, e2, e3, e4, e5, e6, e7, e8⟩ := h.s q _ hr
      have hp : ix fd (p : Int) = pr := by
        have h4 := ix_at (xs := fd) (i := (p : Int)) (by omega) (by have := (List.getElem?_eq_some_iff.mp e4).1; omega)
        rw [Int.toNat_natCast, e4] at h4
        exact (Option.some.inj h4).symm
      obtain ⟨l, hl1, hl2⟩ := steps_path h k p (by omega) (List.getElem?_eq_some_iff.mp e4).1
      rw [hp] at hl2
      have es : stepsF fd (k + 1) ((q + 1 : Nat) : Int) [] = num :: stepsF fd k (p : Int) [] := by
        conv => lhs; unfold stepsF
        rw [e1, e2]
        show stepsF fd k (p : Int) [num] = _
        rw [stepsF_acc]; rfl
      rw [es, List.reverse_cons, List.map_append]
      refine ⟨_, along_snoc hl1 ?_, ?_⟩
      · unfold stepOk
        rw [hl2, Bool.and_eq_true]
        refine ⟨?_, e7⟩
        show (true && (decide (0 ≤ num) && decide (num ≤ (b.d.l.length : Int) - 1))) = true
        rw [decide_eq_true e5, decide_eq_true (by omega)]; rfl
      · rw [lastI_app, hl2, e8]; rfl
theorem stepsM_path {b : Book} {fd : List RRow} (h : RowsOk b firstS fd) {at_ : Int} (h2 : 0 ≤ at_ ∧ at_ < (fd.length : Int)) : ∃ l, alongM b ((stepsM fd at_).map Dat.int) = some l ∧ lastI l = (ix fd at_).a := by
  unfold stepsM
  have := steps_path h (at_.toNat + 1) at_.toNat (by omega) (by omega)
  rw [Int.toNat_of_nonneg h2.1] at this
  exact this
end GL
namespace L2
open PySem PySem.Spec PyProof.Rows
section
variable {X : Cx} {CX : CXT} {k n : Nat} {f : Addr} {fd : FuncData} {ps ks : List Str} {sp : Sp} {E : St → XK} {x : Str} {p pos : Pos} {e : Expr} {es : List Expr} {kws : List Keyword} {t tk : TA} {g : List Value → List Value → List Value} {gV : List V → List V → List V}
def tCallNS (n m : Nat) (sp : Sp) (gV : List V → List V → List V) (E : St → XK) (t tk : TA) : TE := fun σ H Q => t σ H fun vs H1 => tk σ H1 fun zs H2 => vs.length = n ∧ zs.length = m ∧ sp (gV vs zs) H2 Q (E σ)
end
end L2
namespace GL
open PySem PySem.Spec PyProof.Rows L2
structure CalXD (P : Program) (w : World) (K : Fg) (mg : Str → Option Value) (base : Heap) (k : Nat) (x : Str) (ps : List Str) (kw : Str) (dv : V) (sp : Sp) : Prop where
  ex : ∃ (f : Addr) (fd : FuncData), mg x = some (.ref f) ∧ FnOk P w K mg base (L2.CX P w) k f fd ps sp ∧ PySem.W.keepIn K (.ref f) = true ∧ Binds K fd ps [] ∧ (∃ ds, Vals [dv] ds ∧ Binds K fd ps ds) ∧ ∃ g, KBn K fd ps 1 [kw] g (fun vs zs => vs ++ zs)
def tDfl (t : TA) (dv : V) : TA := fun σ H R => t σ H fun vs H1 => R (vs ++ [dv]) H1
def tKwd (t tk : TA) : TA := fun σ H R => t σ H fun vs H1 => tk σ H1 fun zs H2 => vs.length = 1 ∧ zs.length = 1 ∧ R (vs ++ zs) H2
section
variable {X : Cx} {k j : Nat} {ps : List Str} {sp : Sp} {x kw : Str} {dv : V} {p pos : Pos} {e : Expr} {es : List Expr} {t tk : TA} {W : WX}
theorem pe_calXD (c : CalXD X.prog X.w X.K X.mg X.base k x ps kw dv sp) (tkx : Takes X W) (hr : Room j X.A) (hk : k ≤ j) (hg : Gl X x) (ha : PA X (e :: es) t) (hd : (x == ("__debug__" : Str)) = false := by decide)
    (hs : starEach (e :: es) X.env = (false, eval e X.env) :: starEach es X.env := by rfl) (hpl : (backTo pos (starEach es X.env)).any (·.1) = false := by rfl) : PE X (.Call (.Name x p) (e :: es) [] pos) (tCallS sp (WE W) (tDfl t dv)) := by
  obtain ⟨f, fd, a, b, c, _, ⟨ds, d1, d2⟩, _⟩ := c.ex
  exact pe_callSD b (hr.mono hk) hg a c d2 d1 (fun σ => passAt tkx σ) ha hd hs hpl
end
section
variable {K : Fg} {B S0 S1 S S' D : Hp} {σ : L2.St} {H H' : Hp} {F : Nat → List Addr} {G G' G1 G2 : List Sl} {ta tb te : TE} {i j : Nat} {t tk : TA} {u : TS} {E : Ends} {P : L2.St → Hp → Prop}
theorem ea_dfl {α : Type} [Py α] {x : α} {n : Int} (h : EvX K ta G x G1) : EvA K (tDfl (tCons ta tNil) (.int n)) G (x, n, ()) G1 := fun B S0 S σ H F k Q q =>
  h B S0 S σ H F k _ fun v S1 H1 e1 k1 r1 => q [v, .int n] S1 H1 e1 k1 ⟨v, [.int n], rfl, r1, .int n, [], rfl, rfl, rfl⟩
theorem drep_int {v : V} {i : Int} (h : DRep K S v (.int i)) : v = .int i := by cases h; rfl
theorem drep_intsB : ∀ {vs : List V} {l : List Int}, DRepL K S vs (l.map Dat.int) → RepL K S vs l
  | _, [], h => by cases h; exact True.intro
  | _, x :: l, h => by
    rw [List.map_cons] at h
    cases h with
    | cons h1 h2 => exact ⟨drep_int h1, drep_intsB h2⟩
theorem drep_tpB {v : V} {l : List Int} (h : DRep K S v (.tup (l.map Dat.int))) : Py.rep K S v (Tp.mk l) := by
  cases h with
  | tup h1 h2 => exact ⟨_, _, rfl, h1, drep_intsB h2⟩
theorem drep_stB {v : V} {s : RSt} (h : DRep K S v (ToD.dat s)) : Py.rep K S v s := by
  have h : DRep K S v (.tup [.int s.a, .int s.b, .tup (s.c.l.map Dat.int), .tup (s.d.l.map Dat.int)]) := h
  cases h with
  | tup h1 h2 =>
    cases h2 with
    | cons a h2 =>
      cases h2 with
      | cons b h2 =>
        cases h2 with
        | cons c h2 =>
          cases h2 with
          | cons d h2 =>
            cases h2
            exact ⟨_, _, _, _, _, rfl, h1, drep_int a, drep_int b, drep_tpB c, drep_tpB d⟩
theorem EvX.datSt {d : Dat} {s : RSt} (h : EvX K te G d G1) (e : d = ToD.dat s) : EvX K te G s G1 := fun B S0 S σ H F k Q q => h B S0 S σ H F k Q fun v S' H' e' k' r => q v S' H' e' k' (drep_stB (by rw [← e]; exact r))
theorem EvX.asL {d : Dat} (h : EvX K te G d G1) (hd : d.isL = true) : EvX K te G d.items G1 := by
  cases d with
  | lst l => exact fun B S0 S σ H F k Q q => h B S0 S σ H F k Q fun v S' H' e' k' r => q v S' H' e' k' (by
      cases r with
      | lst h1 h2 => exact ⟨_, _, rfl, h1, h2.rep⟩)
  | _ => exact absurd hd Bool.false_ne_true
def spXN {α β : Type} [PyA α] [Py β] [PyF β] (K : Fg) (Y : XC → Addr) (f : α → XC ⊕ β) (pre : α → Prop) : Sp := fun vs H Q E => ∃ (S : Hp) (a : α), Same S H ∧ PyA.rep K S vs a ∧ pre a ∧
  (∀ y, f a = .inr y → ∀ v S' H', Grow S H S' H' → PyF.repF K H S' v y → Q v H') ∧ ∀ e, f a = .inl e → ∀ S' H', Grow S H S' H' → E (.ref (Y e)) none H'
section
variable {α β : Type} [PyA α] [Py β] [PyF β] {f : α → XC ⊕ β} {pre : α → Prop} {a : α} {W : WX} {Y : XC → Addr}
theorem ev_callXNok (y : β) (ha : EvA K t G a G1) (hp : pre a) (e : f a = .inr y) : EvX K (tCallS (spXN K Y f pre) (WE W) t) G y G1 := fun B S0 S σ H F k Q q =>
  ha B S0 S σ H F k _ fun vs S1 H1 e1 k1 r1 => ⟨S1, a, k1.sub, r1, hp, fun y' ey v S2 H2 g r2 => q v S2 H2 (e1.trans g.s) (k1.grow g) (by rw [e] at ey; cases ey; exact PyF.un r2), fun x ex S2 H2 g => by rw [e] at ex; cases ex⟩
end
section
variable {P : Program} {w : World} {mg : Str → Option Value} {base : Heap} {α β : Type} [Sls α] [Py β] [PyF β] {Y : XC → Addr}
theorem ok_spXN {x : Str} {st : Stmt} {N ps : List Str} {k : Nat} {f : α → XC ⊕ β} {pre : α → Prop} {fa : Addr} {fd : FuncData} (S : FnScope N ps (defScope st)) (hn : PyA.n α = ps.length)
    (Fo : ∀ {sp : Sp}, (∀ vs H Q E, sp vs H Q E → vs.length = ps.length) → (∀ (cdv : Value) (A : Around) (outer : List Env) (s : Shared) (H : Hp) (vs : List V) (Q : VK) (E : XK), Room k (A.deeper (envOfC x (defScope st) s.heap.objs.size fa cdv)) → sp vs H Q E →
      ∃ t, PSs (cxOf (L2.CX P w) P w K mg base N x (defScope st) fa cdv A outer s H E) (defBody st) t ∧ t { nx := fun _ H' => Q .non H', rt := Q } (L2.start N vs) H) → FnOk P w K mg base (L2.CX P w) (k + 1) fa fd ps sp)
    (h : ∀ (cdv : Value) (A : Around) (outer : List Env) (s : Shared) (H : Hp) (E : XK), Room k (A.deeper (envOfC x (defScope st) s.heap.objs.size fa cdv)) →
      ∃ t, PSs (cxOf (L2.CX P w) P w K mg base N x (defScope st) fa cdv A outer s H E) (defBody st) t ∧
        ∀ (a : α), pre a → ∀ (B S0 : Hp) (Q : VK), (∀ G' y, f a = .inr y → RT K B S0 Q (Fx.mk B y) G') → (∀ G' e, f a = .inl e → At K B S0 (fun _ H' => E (.ref (Y e)) none H') G') → At K B S0 (t { nx := fun _ H' => Q .non H', rt := Q }) (Sls.sls a ++ List.replicate (N.length - PyA.n α) .no)) :
    FnOk P w K mg base (L2.CX P w) (k + 1) fa fd ps (spXN K Y f pre) := by
  refine Fo (fun vs H Q E ⟨S, a, _, r, _⟩ => (PyA.len r).trans hn) fun cdv A outer s H vs Q E hr ⟨S', a, e, r, hp, q, qe⟩ => ?_
  obtain ⟨t, h1, h2⟩ := h cdv A outer s H E hr
  exact ⟨t, h1, h2 a hp H S' Q (fun G' y ey S1 σ1 H1 F1 v k1 r1 => q y ey v S1 H1 ⟨k1.s0, k1.sub, k1.keep, k1.clean⟩ r1) (fun G' x ex S1 σ1 H1 F1 k1 => qe x ex S1 H1 ⟨k1.s0, k1.sub, k1.keep, k1.clean⟩) S' _ H _ (start_kn e r)⟩
structure DefD (K : Fg) (mg : Str → Option Value) (x : Str) (st : Stmt) (ps : List Str) (kw : Str) (dv : V) : Prop where
  ex : ∃ (f : Addr) (fd : FuncData), mg x = some (.ref f) ∧ FunD K x x (defArgs st) (defBody st) (defScope st) [dv] [] f fd ∧ Binds K fd ps [] ∧ (∃ ds, Vals [dv] ds ∧ Binds K fd ps ds) ∧ ∃ g, KBn K fd ps 1 [kw] g (fun vs zs => vs ++ zs)
theorem def_spXN {x kw : Str} {dv : V} {st : Stmt} {N ps : List Str} {k : Nat} {f : α → XC ⊕ β} {pre : α → Prop} (D : DefD K mg x st ps kw dv) (S : FnScope N ps (defScope st)) (hn : PyA.n α = ps.length)
    (h : ∀ (fa : Addr) (cdv : Value) (A : Around) (outer : List Env) (s : Shared) (H : Hp) (E : XK), Room k (A.deeper (envOfC x (defScope st) s.heap.objs.size fa cdv)) →
      ∃ t, PSs (cxOf (L2.CX P w) P w K mg base N x (defScope st) fa cdv A outer s H E) (defBody st) t ∧
        ∀ (a : α), pre a → ∀ (B S0 : Hp) (Q : VK), (∀ G' y, f a = .inr y → RT K B S0 Q (Fx.mk B y) G') → (∀ G' e, f a = .inl e → At K B S0 (fun _ H' => E (.ref (Y e)) none H') G') → At K B S0 (t { nx := fun _ H' => Q .non H', rt := Q }) (Sls.sls a ++ List.replicate (N.length - PyA.n α) .no)) :
    CalXD P w K mg base (k + 1) x ps kw dv (spXN K Y f pre) := by
  obtain ⟨fa, fd, m, F, b1, b2, b3⟩ := D.ex
  exact ⟨fa, fd, m, ok_spXN S hn (fun len hb => F.ok S len hb) fun cdv A outer s H E hr => h fa cdv A outer s H E hr, F.kp, b1, b2, b3⟩
end
theorem defD_mk {K : Fg} {mg : Str → Option Value} {h : Heap} {x kw p1 : Str} {n : Int} {st : Stmt} {f T : Addr} {oc tc : Value} {od an td : Option Addr} {osl tsl : Array (Option Value)} {kV doc pm cdv ct : Value} {tk : Tok} {m : Nat} (X : K.In h) (G : h.Ns mainGlobals mg) (a : PySem.W.nsIn K mainGlobals x = some (some (.ref f)))
    (l : K.lookup f = some ⟨oc, od, .func (PySem.W.fnOf x x (defArgs st) (defBody st) (defScope st) (.ref T) kV doc pm an cdv ct), osl⟩) (lT : K.lookup T = some ⟨tc, td, .seq #[.int n tk] m, tsl⟩) (c : PySem.W.codeIn K cdv x = true) (k : PySem.W.keepIn K (.ref f) = true)
    (h2 : ∀ (T : Addr) (kV doc pm : Value) (an : Option Addr) (cdv ct : Value) (us its : List Value), us.length = 2 → its.length = 1 → ∃ k, bindArgs (PySem.W.fnOf x x (defArgs st) (defBody st) (defScope st) (.ref T) kV doc pm an cdv ct) ⟨us, []⟩ = seqItems? (.ref T) >>= k ∧ k (some its.toArray) = pure ([p1, kw].zip (us ++ its.drop 1)))
    (h1 : ∀ (T : Addr) (kV doc pm : Value) (an : Option Addr) (cdv ct : Value) (us its : List Value), us.length = 1 → its.length = 1 → ∃ k, bindArgs (PySem.W.fnOf x x (defArgs st) (defBody st) (defScope st) (.ref T) kV doc pm an cdv ct) ⟨us, []⟩ = seqItems? (.ref T) >>= k ∧ k (some its.toArray) = pure ([p1, kw].zip (us ++ its.drop 0)))
    (hk : ∀ (T : Addr) (kV doc pm : Value) (an : Option Addr) (cdv ct : Value) (us its ws : List Value), us.length = 1 → its.length = 1 → ws.length = 1 → ∃ k, bindArgs (PySem.W.fnOf x x (defArgs st) (defBody st) (defScope st) (.ref T) kV doc pm an cdv ct) ⟨us, [kw].zip ws⟩ = seqItems? (.ref T) >>= k ∧ k (some its.toArray) = pure ([p1, kw].zip (us ++ ws))) :
    DefD K mg x st [p1, kw] kw (.int n) := by
  have F : FunD K x x (defArgs st) (defBody st) (defScope st) [.int n] [] f _ := ⟨⟨oc, od, .ref T, kV, doc, pm, an, cdv, ct, osl, rfl, l, c, .inr ⟨by simp, T, _, [.int n tk], m, rfl, lT, rfl, .cons ⟨tk, rfl⟩ .nil⟩, .inl rfl⟩, k⟩
  obtain ⟨ds2, v2, b2⟩ := FunD.binds1 (ps := [p1, kw]) F 2 1 (by simp) rfl h2
  obtain ⟨ds1, v1, b1⟩ := FunD.binds1 (ps := [p1, kw]) F 1 0 (by simp) rfl h1
  obtain ⟨its, bk⟩ := FunD.kbindsD (ps := [p1, kw]) F 1 [kw] (fun us _ ws => us ++ ws) (by simp) (fun r _ z => r.append z) hk
  cases v2
  exact ⟨f, _, PySem.W.mg_of X G a, F, b2, ⟨ds1, v1, b1⟩, _, bk⟩
theorem q_retPC {K : Fg} {B S0 : Hp} {G G1 G2 : List Sl} {ta : TE} {t : TA} {u : TS} {E : Ends} {Ex : XK} {α β χ ω : Type} [PyA α] [Py β] [PyF β] [Py χ] [PyF χ] [Py ω] [PyF ω] {f : α → β} {pre : α → Prop} {a : α} {x : χ} (inj : β → ω) (hj : ∀ {K : Fg} {D S : Hp} {v : V} {y : β}, PyF.repF K D S v y → PyF.repF K D S v (inj y))
    (hx : ∀ {K : Fg} {D S : Hp} {v : V}, Py.rep K S v x → PyF.repF K D S v x) (ha : EvX K ta G x G1) (hc : EvA K t G1 a G2) (hp : pre a) (k : ∀ y, y = f a → RT K B S0 E.rt (Fx.mk B ((x, inj y) : χ × ω)) G2) :
    At K B S0 (tSeq (tRet (tTup (tCons ta (tCons (tCall (spN K f pre) [] Ex t) tNil)))) u E) G := fun S σ H F kn =>
  ha B S0 S σ H F kn _ fun v S1 H1 e1 k1 r1 => hc B S0 S1 σ H1 F k1 _ fun vs S2 H2 e2 k2 r2 => by
    show spN K f pre (vs ++ []) H2 _ Ex
    rw [List.append_nil]
    refine ⟨S2, a, k2.sub, r2, hp, fun w S3 H3 g r3 => ⟨by show 2 ≤ sizeLine; decide, fun l hl => ?_⟩⟩
    have k3 := k2.grow g
    have e4 := same_new (o := .tup [v, w]) (k3.free hl).1
    exact k _ rfl _ σ _ F (.ref l) (k3.new hl) ⟨l, v, w, rfl, SqT.of upd_same, hx (Py.mono (((e2.trans g.s)).trans e4) r1), PyF.mono e4 (hj (PyF.anti k2.keep r3))⟩
structure Otl where
  n : Nat
instance : Own Otl := ⟨fun K S H v ps x => ∃ p q w vs, v = .ref p ∧ SqT K S p [w, .ref q] ∧ ps = [q] ∧ H q = some (.lst vs) ∧ vs.length = x.n, fun e a ⟨p, q, w, vs, h1, h2, h3, h4, h5⟩ => ⟨p, q, w, vs, h1, seqT e h2, h3, by rw [a q (by rw [h3]; exact List.mem_singleton.mpr rfl)]; exact h4, h5⟩⟩
inductive Kq (S0 : Hp) : Sl → Sl → Prop
  | k {α : Type} [Py α] {x : α} : Kq S0 (.im (At1.mk S0 x)) (.im (At1.mk S0 x))
  | o {α : Type} [Own α] [OwnI α] {x : α} : Kq S0 (.ow x) (.ow x)
  | l {α : Type} [Py α] [NoL α] {x : List α} : Kq S0 (.ow x) (.ow x)
  | m {α : Type} [Py α] [NoL α] {x : α} : Kq S0 (.im x) (.im x)
  | d {s : Sl} : Kq S0 .no s
inductive Kqs (S0 : Hp) : List Sl → List Sl → Prop
  | n : Kqs S0 [] []
  | c {s s' : Sl} {G G' : List Sl} : Kq S0 s s' → Kqs S0 G G' → Kqs S0 (s :: G) (s' :: G')
theorem Kqs.len {G G' : List Sl} (h : Kqs S0 G G') : G.length = G'.length := by
  induction h with
  | n => rfl
  | c _ _ ih => rw [List.length_cons, List.length_cons, ih]
theorem Kqs.get {G G' : List Sl} (t : Kqs S0 G G') : ∀ (i : Nat) (s : Sl), G[i]? = some s → ∃ s', G'[i]? = some s' ∧ Kq S0 s s' := by
  induction t with
  | n => intro i s e; simp at e
  | c h t ih =>
    intro i s e
    cases i with
    | zero =>
      simp only [List.getElem?_cons_zero, Option.some.injEq] at e
      subst e
      exact ⟨_, rfl, h⟩
    | succ i => simpa using ih i s (by simpa using e)
theorem Kq.ok {s s' : Sl} {sv : Option (Option V)} {ps : List Addr} {q : Addr} {us : List V} (h : Kq S0 s s') (hs : Same S0 (del S q)) (hq : S q = some (.lst us)) (r : SlOk K S H sv ps s') : SlOk K (del S q) H sv ps s := by
  cases h with
  | k =>
    obtain ⟨v, h1, h2, h3⟩ := r
    exact ⟨v, h1, h2, hs⟩
  | o =>
    obtain ⟨v, h1, h2⟩ := r
    exact ⟨v, h1, OwnI.go h2⟩
  | l =>
    obtain ⟨v, h1, p, vs, h2, h3, h4, h5⟩ := r
    exact ⟨v, h1, p, vs, h2, h3, h4, nlAll hq h5⟩
  | m =>
    obtain ⟨v, h1, h2⟩ := r
    exact ⟨v, h1, NoL.go hq h2⟩
  | d => exact True.intro
end
end GL
namespace GL
open PySem PySem.Spec PyProof.Rows L2
def tND1 (K : PySem.W.Frag) (sh : List Bool) (tk tv : TE) : TE := fun σ H Q => ∀ p, H p = none → tPairs [(tk, tv)] σ (upd H p (ndH p [])) fun ps H2 => ∃ b k v, ps = [(V.ref b, v)] ∧ k.map side = sh ∧ NAt K H2 p [] b k ∧ Q (.ref p) (upd H2 p (ndH p (putN [] k b v)))
section
variable {X : Cx} {ke ve : Expr} {pos : Pos} {tk tv : TE} {sh : List Bool}
theorem pe_ndisp1 (hu : X.A.units + 2 < cLine) (hk : PE X ke tk) (hv : PE X ve tv) : PE X (.Dict [some ke] [ve] pos) (tND1 X.K sh tk tv) := by
  refine ⟨fun pins s σ H Q I q => ?_⟩
  have hn := I.hok.fresh (Nat.le_refl s.heap.objs.size)
  have I1 := I.laid (a := s.heap.objs.size) (o := ndH s.heap.objs.size []) (h' := s.heap.push { cls := .type "dict", data := .dict #[] }) (t' := s.toks) (fun _ _ q => Heap.get?_push_of_some _ q) (Nat.le_refl _) (nd_empty s.heap I.big)
  have hln : (pairTrees [some ke] [ve] X.env pos).length = 1 := pairTrees_length [some ke] [ve] X.env pos rfl rfl
  show wpAny (model X.prog X.w) X.A (eval (.Dict [some ke] [ve] pos) X.env) (EP X pins σ Q) X.xe s
  rw [arm_eval_Dict, zip_pairTrees [some ke] [ve] X.env pos rfl rfl, dictDisplay_pairs _ (fun e => by rw [e] at hln; cases hln) (by rw [hln]; decide)]
  refine wpAny_bind (wpAny_standAt (wpAny_bind (wpAny_subDictH (knd := nkKind (intKind X.prog X.w) sh) (Q := fun d s' => wpAny (model X.prog X.w) X.A (pure (Value.ref d)) (EP X pins σ Q) X.xe s') (show (nkKind (intKind X.prog X.w) sh).room X.A by show X.A.units + 1 < cLine; omega) (by rw [hln]; decide)
    (thn ((pps_cons hk hv pps_nil).run pins _ σ _ _ I1 (q _ hn)) fun ws s2 ⟨ps, H2, I2, rel, b, k, v, ep, es, n, q2⟩ => ?_))))
  subst ep
  cases rel with
  | @cons p w ps ws h t =>
    cases t
    obtain ⟨w1, w2⟩ := w
    obtain ⟨h1, h2⟩ := h
    obtain rfl : w1 = Value.ref b := h1
    have hsh : k.map side = sh := es
    obtain ⟨z, hd, xs, rel, dd⟩ := nd_of (sh := sh) I2 n.e (by rw [← hsh]; exact n.ak)
    cases rel
    refine ⟨[(k, b, w2)], ⟨rfl, rfl, ⟨n.kb.at_ I2, hsh⟩, True.intro⟩, dd, fun h' tk' dd' hs => wpAny_pure ⟨.ref s.heap.objs.size, _, ?_, rfl, q2⟩⟩
    have he : ∃ q, h'.get? s.heap.objs.size = some q := let ⟨q, _, _, hq, _⟩ := dd'; ⟨q, hq⟩
    have hl' : (putN [] k b v).length ≤ sizeLine := Nat.le_trans (putN_len [] k b v) (by decide)
    exact d_write I2 (by rw [n.e]; exact True.intro) hs he (nkd_ok hl' hd (NR.put h2 .nil) dd')
end
section
variable {K : Fg} {B S0 : Hp} {G G1 G2 : List Sl} {i : Nat} {u : TS} {E : Ends} {tk tv : TE}
theorem Kn.base1 {S : Hp} {σ : L2.St} {H : Hp} {F : Nat → List Addr} {p : Addr} {o : HO} (k : Kn K B S0 S σ H F G) (h : H p = none) : Kn K (upd B p o) S0 S σ (upd H p o) F G := by
  have k2 := k.raw (o := o) h
  obtain ⟨f1, f2, f3⟩ := k.free h
  refine ⟨k2.s0, k2.sub, fun q x e => ?_, fun q x e => ?_, fun i q hq => ?_, k2.dj, k2.len, k2.sl⟩
  · by_cases z : q = p
    · rw [z, upd_same] at e ⊢; exact e
    · rw [upd_ne z] at e ⊢; exact k.keep q x e
  · by_cases z : q = p
    · rw [z, f1]
      cases e0 : S0 p with
      | none => rfl
      | some y => have := k.s0 _ _ e0; rw [f1] at this; cases this
    · rw [upd_ne z] at e; exact k.clean q x e
  · obtain ⟨a1, a2, a3⟩ := k2.off i q hq
    exact ⟨a1, by rw [upd_ne (fun z => f3 i (by rw [← z]; exact hq))]; exact a2, a3⟩
theorem Kn.base0 {S : Hp} {σ : L2.St} {H : Hp} {F : Nat → List Addr} {p : Addr} {o o' : HO} (k : Kn K (upd B p o) S0 S σ H F G) (hb : B p = none) (h0 : S0 p = none) : S p = none ∧ (∀ j, p ∉ F j) ∧ Kn K B S0 S σ (upd H p o') F G := by
  have hs : S p = none := by rw [k.clean p o upd_same]; exact h0
  have hf : ∀ j, p ∉ F j := fun j hj => by have := (k.off j p hj).2.1; rw [upd_same] at this; cases this
  refine ⟨hs, hf, k.s0, fun q x e => ?_, fun q x e => ?_, fun q x e => ?_, fun i q hq => ?_, k.dj, k.len, fun i s e => ?_⟩
  · rw [upd_ne (ne_of_none e hs)]; exact k.sub q x e
  · have z := ne_of_none e hb
    rw [upd_ne z]; exact k.keep q x (by rw [upd_ne z]; exact e)
  · exact k.clean q x (by rw [upd_ne (ne_of_none e hb)]; exact e)
  · obtain ⟨a1, a2, a3⟩ := k.off i q hq
    have z : q ≠ p := fun z => hf i (z ▸ hq)
    exact ⟨a1, by rw [upd_ne z] at a2; exact a2, by rw [upd_ne z]; exact a3⟩
  · have r := k.sl i s e
    cases s with
    | no => exact True.intro
    | im x => exact r
    | ow x =>
      obtain ⟨v, h1, h2⟩ := r
      exact ⟨v, h1, Own.mono (Same.refl _) (fun a ha => upd_ne (fun z => hf i (by rw [← z]; exact ha))) h2⟩
theorem q_nnew1 {α β : Type} [NKey α] [Py β] [DecidableEq α] {k : α} {y : β} (hk : EvX K tk G k G1) (hv : EvX K tv G1 y G2) (hi : G2[i]?.isSome = true) (q : At K B S0 (u E) (G2.set i (.ow (DN.mk [(k, y)] : DN α β)))) : At K B S0 (tSeq (tAsg (tND1 K (NKey.sh α) tk tv) (gName i)) u E) G := fun S σ H F kn => by
  intro p hp
  obtain ⟨f1, f2, f3⟩ := kn.free hp
  have f0 : S0 p = none := kn.s0.free f1
  refine hk (upd B p (ndH p [])) S0 S σ _ F (kn.base1 (o := ndH p []) hp) _ fun x S1 H1 e1 k1 r1 => ?_
  refine hv (upd B p (ndH p [])) S0 S1 σ H1 F k1 _ fun v S2 H2 e2 k2 r2 => ?_
  obtain ⟨b, rfl, hb⟩ := NKey.at_ (Py.mono e2 r1)
  refine ⟨b, NKey.key k, v, rfl, NKey.shp k, ⟨k2.keep p _ upd_same, (fun e he => by cases he), hb.mono k2.sub⟩, ?_⟩
  obtain ⟨g1, g2, k3⟩ := k2.base0 (o' := ndH p (putN [] (NKey.key k) b v)) f2 f0
  exact q S2 _ _ _ (k3.setOwn (v := .ref p) (x := (DN.mk [(k, y)] : DN α β)) ⟨p, putN [] (NKey.key k) b v, rfl, rfl, upd_same, ⟨⟨rfl, Py.mono e2 r1, r2⟩, True.intro⟩⟩ hi g1 f2 ⟨_, upd_same⟩ g2)
end
end GL
set_option maxHeartbeats 1000000
namespace RVL
open PySem PySem.Spec PyProof.Rows RT
section
variable {prog : Program} {w : World} {A : Around} {E : Value → Shared → Prop} {s : Shared} {R : Result → Shared → Prop} {it l S : Addr} {items : Array Value}
theorem own_extRev (hh : A.handled = none) (hit : s.heap.IsRevIter it l ((items.size : Int) - 1)) (hl : s.heap.IsList l items) (hne : l ≠ it) (hSi : S ≠ it) (hSl : S ≠ l) (c₀ : Nat) (hS : s.heap.get? S = some { cls := .type "list", data := .seq #[] c₀ }) (hn : items.size ≤ sizeLine) (res : Value)
    (hR : ∀ (h' : Heap) (tk : Nat) (acc : Array Value) (c' : Nat), (∀ b o, b ≠ it → b ≠ S → s.heap.get? b = some o → h'.get? b = some o) → h'.get? S = some { cls := .type "list", dict := none, data := .seq acc c', slots := #[] } →
      ItemsOf (fun i v => items[items.size - 1 - i]? = some v) acc items.size → R (.ok (.ret res)) { s with heap := h', toks := tk }) :
    wpAny (model prog w) A.in1 (Builtin.List.listExtendWith (.ref S) (.ref it) res)
      (fun fin s' => match fin with | .done f => R (.ok f) s' | .again c' => c'.quiet = true ∧ codeAny (model prog w) A c' R s') (fun e s' => R (.error e) s') s := by
  have W := (Walks.listRev (prog := prog) (w := w) (A := A.in1) hh it l hne items).toS
  have hSf : S ∉ [it, l] := by simp only [List.mem_cons, List.not_mem_nil, or_false, not_or]; exact ⟨hSi, hSl⟩
  have hTr : s.TypeIs (.ref it) "list_reverseiterator" := Heap.IsRevIter.typeIs hit
  unfold Builtin.List.listExtendWith
  refine wpAny_bind (wpAny_typeOf hTr (s := s) ?_)
  rw [if_neg (by rw [show Builtin.List.listSameRef (.ref S) (.ref it) = false by simp [Builtin.List.listSameRef, hSi]]; decide)]
  refine wpAny_bind (wpAny_pyIter_revIter (s := s) hit (wpAny_bind (wpAny_holding ?_)))
  unfold Builtin.List.listLengthHint
  refine wpAny_bind (wpAny_specialOf (s := s) hTr nolen_lri ?_)
  show wpAny _ A.in1 (specialOf (Value.ref it) (Str.ofString "__length_hint__") >>= fun _ => _) _ _ _
  refine wpAny_bind (wpAny_specialOf (s := s) hTr hint_lri ?_)
  generalize hq : ("list_reverseiterator.__length_hint__" : String) = idq
  wp_delta
  rw [show splitId idq = some ("list_reverseiterator", "__length_hint__") from by rw [← hq]; decide +kernel]
  subst hq
  refine wpAny_bind (wpAny_isInstance (b := true) hTr (by rw [isSubtype_type]; kernel_rfl) (wpAny_pure ?_))
  rw [if_neg (by decide)]
  have e0 : ((items.size : Nat) : Int) - 1 - ((0 : Nat) : Int) = (items.size : Int) - 1 := by omega
  refine wpAny_pure ⟨plainId_quiet F.plain_extend_loop _, codeAny_extend_loopS W hn S hSf _ items.size 0 _ _ _ rfl (Nat.zero_le _) ⟨Nat.zero_le _, by rw [e0]; exact hit, hl⟩ hS (ItemsOf.nil _) fun s' acc' c' hm hS' hacc => ?_⟩
  rw [Moved.eq_with hm]
  refine hR s'.heap s'.toks acc' c' (fun b o hb hb2 e => hm.heap b o (fun hmem => ?_) e) hS' hacc
  rcases List.mem_cons.mp hmem with e' | hmem
  · exact hb2 e'
  · exact hb (List.mem_singleton.mp hmem)
theorem own_initRev (hh : A.handled = none) (hit : s.heap.IsRevIter it l ((items.size : Int) - 1)) (hl : s.heap.IsList l items) (hne : l ≠ it) (hSi : S ≠ it) (hSl : S ≠ l) (hS : s.heap.get? S = some { cls := .type "list", data := .seq #[] }) (hn : items.size ≤ sizeLine)
    (hR : ∀ (h' : Heap) (tk : Nat) (acc : Array Value) (c' : Nat), (∀ b o, b ≠ it → b ≠ S → s.heap.get? b = some o → h'.get? b = some o) → h'.get? S = some { cls := .type "list", dict := none, data := .seq acc c', slots := #[] } →
      ItemsOf (fun i v => items[items.size - 1 - i]? = some v) acc items.size → R (.ok (.ret .none)) { s with heap := h', toks := tk }) :
    wpAny (model prog w) A.in1 (Builtin.«list.__init__» ⟨[.ref S, .ref it], []⟩)
      (fun fin s' => match fin with | .done f => R (.ok f) s' | .again c' => c'.quiet = true ∧ codeAny (model prog w) A c' R s') (fun e s' => R (.error e) s') s := by
  show wpAny _ A.in1 (do let old ← Builtin.List.listItems (.ref S); Builtin.List.listUpdate (.ref S) (fun _ => #[]); letGo old.toList.reverse; Builtin.List.listExtendWith (.ref S) (.ref it) .none) _ _ s
  unfold Builtin.List.listItems
  refine wpAny_bind (wpAny_bind (wpAny_seqItems hS rfl (wpAny_pure ?_)))
  show wpAny _ A.in1 (updateSeq S (fun _ => #[]) >>= fun _ => letGo (#[] : Array Value).toList.reverse >>= fun _ => Builtin.List.listExtendWith (.ref S) (.ref it) .none) _ _ s
  refine wpAny_bind (wpAny_updateSeq hS rfl (wpAny_bind (wpAny_letGo ?_)))
  have hSz := Heap.get?_update_self (Obj.mapSeq (fun _ => (#[] : Array Value))) hS rfl
  have oth : ∀ b o, b ≠ S → s.heap.get? b = some o → (s.heap.update S (Obj.mapSeq (fun _ => (#[] : Array Value)))).get? b = some o := fun b o hb e => (Heap.get?_update_other _ _ (Ne.symm hb)).trans e
  obtain ⟨ol, hol, q1, q2, q3⟩ := hl
  refine own_extRev hh (hit.at fun o e => oth it o (Ne.symm hSi) e) ⟨ol, oth l ol (Ne.symm hSl) hol, q1, q2, q3⟩ hne hSi hSl _ hSz hn .none fun h' tk acc c' hk hS' hacc => ?_
  exact hR h' tk acc c' (fun b o hb hb2 e => hk b o hb hb2 (oth b o hb2 e)) hS' hacc
theorem own_callListRev {Q : Value → Shared → Prop} (hh : A.handled = none) (hit : s.heap.IsRevIter it l ((items.size : Int) - 1)) (hl : s.heap.IsList l items) (hne : l ≠ it) (hn : items.size ≤ sizeLine)
    (hQ : ∀ (h' : Heap) (tk : Nat) (acc : Array Value) (c' : Nat), (∀ b o, b ≠ it → s.heap.get? b = some o → h'.get? b = some o) → s.heap.get? s.heap.objs.size = none → h'.get? s.heap.objs.size = some { cls := .type "list", dict := none, data := .seq acc c', slots := #[] } →
      ItemsOf (fun i v => items[items.size - 1 - i]? = some v) acc items.size → Q (.ref s.heap.objs.size) { s with heap := h', toks := tk }) : wpAny (model prog w) A (call (.type "list") [.ref it]) Q E s := by
  obtain ⟨oi, hoi, _⟩ := id hit
  obtain ⟨ol, hol, _⟩ := id hl
  refine callType_codes (Q₁ := fun obj s₁ => obj = .ref s.heap.objs.size ∧ s₁ = { s with heap := s.heap.push { cls := .type "list", data := .seq #[] } }) F.called_list (F.typeCall_list_1 _) F.entry_list_init (code_list_new _ ⟨rfl, rfl⟩) fun obj s₁ h₁ => ?_
  obtain ⟨rfl, rfl⟩ := h₁
  have hS : (s.heap.push { cls := .type "list", data := .seq #[] }).get? s.heap.objs.size = some { cls := .type "list", data := .seq #[] } := Heap.get?_push_size _ rfl
  refine ⟨⟨_, hS, rfl⟩, F.args_list_init_2 _ _, own_initRev (A := A.in1) hh (hit.at fun o e => Heap.get?_push_of_some _ e) (hl.push _) hne (Nat.ne_of_gt (Heap.lt_size hoi)) (Nat.ne_of_gt (Heap.lt_size hol)) hS hn fun h' tk acc c' hk hS' hacc => ⟨rfl, ?_⟩⟩
  have hno : s.heap.get? s.heap.objs.size = none := by
    cases e : s.heap.get? s.heap.objs.size with
    | none => rfl
    | some o => exact absurd (Heap.lt_size e) (Nat.lt_irrefl _)
  exact hQ h' tk acc c' (fun b o hb e => hk b o hb (fun z => by rw [z, hno] at e; cases e) (Heap.get?_push_of_some _ e)) hno hS' hacc
end
end RVL
namespace L2
open PySem PySem.Spec PyProof.Rows
def tLstRev (K : PySem.W.Frag) (te : TE) : TE := fun σ H Q => te σ H fun v H1 => ∃ (a : Addr) (xs : List V), v = .ref a ∧ SqL K H1 a xs ∧ ∀ q, H1 q = none → Q (.ref q) (upd H1 q (.lst xs.reverse))
section
variable {X : Cx}
open RT in
theorem pe_lstRev {e : Expr} {te : TE} {p p2 pos pos2 : Pos} (hc : X.calm = true) (hg : Gl X "list") (hm : X.mg "list" = none) (hg2 : Gl X "reversed") (hm2 : X.mg "reversed" = none) (he : PE X e te)
    (hs : starEach [e] X.env = (false, eval e X.env) :: starEach [] X.env := by rfl)
    (hs2 : starEach [.Call (.Name "reversed" p2) [e] [] pos2] X.env = (false, eval (.Call (.Name "reversed" p2) [e] [] pos2) X.env) :: starEach [] X.env := by rfl) :
    PE X (.Call (.Name "list" p) [.Call (.Name "reversed" p2) [e] [] pos2] [] pos) (tLstRev X.K te) := by
  refine ⟨fun pins s σ H Q I h => ?_⟩
  refine Call_ (ld_blt I hg hm boot_list (callWith_type1 (args_cons (Call_ (ld_blt I hg2 hm2 boot_reversed (callWith_type1 (args_cons (thn (he.run pins s σ H _ I h) fun u s1 ⟨v, H1, I1, r1, q1⟩ => args_nil ?_) hs) hs rfl))) hs2) hs2 rfl))
  obtain ⟨a, xs, ev, hq, q⟩ := q1
  subst ev
  obtain rfl : u = Value.ref a := r1
  obtain ⟨its, rv, p', hz⟩ := I1.list hq
  refine call_reversed_list p'.isList (args_nil ?_)
  have k0 : ∀ b o, s1.heap.get? b = some o → (s1.heap.push (revObj a ((its.toArray.size : Int) - 1))).get? b = some o := fun b o e => Heap.get?_push_of_some _ e
  have I2 : Inv X pins σ H1 { s1 with heap := s1.heap.push (revObj a ((its.toArray.size : Int) - 1)) } := I1.kept (t' := s1.toks) k0
  have hfr := I1.hok.fresh (H := H1) (Nat.le_refl s1.heap.objs.size)
  obtain ⟨f0, f1, f2, f3, f4, f5⟩ := I1.fpOk (H' := H1) (b := s1.heap.objs.size) (Nat.le_refl _) hfr
  have hl := p'.isList
  obtain ⟨ol, hol, _⟩ := id hl
  have hne : a ≠ s1.heap.objs.size := Nat.ne_of_lt (Heap.lt_size hol)
  have hn : its.toArray.size ≤ sizeLine := by rw [List.size_toArray, ← rv.length]; exact hz
  refine RVL.own_callListRev (s := { s1 with heap := s1.heap.push (revObj a ((its.toArray.size : Int) - 1)) }) (I1.ok.hd hc) ⟨_, Heap.get?_push_size _ rfl, rfl, rfl⟩ (hl.push _) hne hn fun h' tk acc c' hk hno hS' hacc => ?_
  have hle : s1.heap.objs.size ≤ (s1.heap.push (revObj a ((its.toArray.size : Int) - 1))).objs.size := by unfold Heap.push; simp
  exact ⟨.ref _, _, I1.laid (h' := h') (t' := tk) (fun b o e => hk b o (Nat.ne_of_lt (Heap.lt_size e)) (Heap.get?_push_of_some _ e)) hle (show ObjOk X.prog X.w _ h' _ (.lst xs.reverse) from ⟨by rw [List.length_reverse]; exact hz, acc.toList, c', vals_rev rv hacc, by rw [Array.toArray_toList]; exact hS'⟩), rfl, q _ (I1.hok.fresh hle)⟩
end
end L2
namespace GL
open PySem PySem.Spec PyProof.Rows L2
theorem el_listRev {α : Type} [Py α] {K : Fg} {G G1 : List Sl} {ta : TE} {xs : List α} (h : EvC K ta G xs G1) : EvL K (tLstRev K ta) G xs.reverse G1 := fun B S0 S σ H F k Q q =>
  h B S0 S σ H F k _ fun v S1 H1 e1 k1 r1 => by
    obtain ⟨p, vs, rfl, hp, hr⟩ := r1.at k1
    refine ⟨p, vs, rfl, SqL.of hp, fun l hl => ?_⟩
    exact mk_list k1 hl (RepL.rev hr) fun p vs S2 H2 e2 k2 a b c d r => q p vs S2 H2 (e1.trans e2) k2 a b c d r
end GL
namespace GL
open PySem PySem.Spec PyProof.Rows L2
@[irreducible] def rnsM (b : Book) (s : RSt) : List Int := (([0, 1] : List Int).filter fun h => ix (t4i b h).l (t4i s h)).map fun h => h
theorem run_bd {b : Book} {s : RSt} {h : Int} (hs : StOk b s) (hh : h ∈ ([0, 1] : List Int)) : 0 ≤ t4i s h ∧ t4i s h < ((t4i b h).l.length : Int) := by
  simp only [List.mem_cons, List.mem_nil_iff, or_false] at hh
  rcases hh with rfl | rfl
  · exact hs.old
  · exact hs.new
theorem rng02 : rng 0 2 = [0, 1] := by decide
theorem bd02 {h : Int} (hm : h ∈ rng 0 2) : 0 ≤ h ∧ h < 2 := by have := mem_rng.mp hm; omega
theorem in02 {h : Int} (hm : h ∈ rng 0 2) : h ∈ ([0, 1] : List Int) := by rw [rng02] at hm; exact hm
theorem in_enum {b : Book} {pre post : List (Int × Rule)} {x : Int × Rule} (e : pre ++ x :: post = enumI b.d.l) : x.2 ∈ b.d.l := by
  have : x ∈ enumI b.d.l := by rw [← e]; simp
  rw [← enum_snd (xs := b.d.l)]
  exact List.mem_map_of_mem this
theorem in_pre {α : Type} {xs pre post : List α} {x : α} (e : pre ++ x :: post = xs) : x ∈ xs := by rw [← e]; simp
theorem and_dec {p q : Prop} [Decidable p] [Decidable q] (h : (decide p && decide q) = true) : p ∧ q := by simpa using h
theorem rns_eq {b : Book} {s : RSt} : (([0, 1] : List Int).filter fun h => ix (t4i b h).l (t4i s h)).map (fun h => h) = rnsM b s := by unfold rnsM; rfl
theorem rns_eq2 {b : Book} {s : RSt} : ((rng 0 2).filter fun h => ix (t4i b h).l (t4i s h)).map (fun h => h) = rnsM b s := by rw [rng02]; exact rns_eq
def KnR (fd : List RSt) (kn : DN RSt Bool) : Prop := kn.l.map Prod.fst = fd
theorem KnR.has {fd : List RSt} {kn : DN RSt Bool} (h : KnR fd kn) (s : RSt) : (kn.get? s).isSome = decide (s ∈ fd) := by
  unfold KnR at h
  subst h
  unfold DN.get?
  rw [Option.isSome_map]
  obtain ⟨l⟩ := kn
  induction l with
  | nil => simp
  | cons e l ih =>
    rw [List.find?_cons]
    dsimp only at ih
    by_cases c : e.1 = s
    · rw [decide_eq_true c]
      simp [c]
    · rw [decide_eq_false c]
      dsimp only
      rw [ih]
      simp only [List.map_cons, List.mem_cons]
      by_cases m : s ∈ l.map Prod.fst
      · rw [decide_eq_true m, decide_eq_true (Or.inr m)]
      · rw [decide_eq_false m, decide_eq_false (fun z => z.elim (fun e' => c e'.symm) m)]
theorem KnR.put {fd : List RSt} {kn : DN RSt Bool} {v : Bool} (h : KnR fd kn) {s : RSt} (hn : s ∉ fd) : KnR (fd ++ [s]) (kn.put s v) := by
  unfold DN.put
  rw [if_neg (by rw [h.has, decide_eq_false hn]; decide)]
  unfold KnR at h ⊢
  rw [List.map_append, h]; rfl
theorem KnR.len {fd : List RSt} {kn : DN RSt Bool} (h : KnR fd kn) : kn.l.length = fd.length := by
  unfold KnR at h
  rw [← h, List.length_map]
structure RcI (b : Book) (f : RSt) (limit : Int) (fd : List RRow) (kn : DN RSt Bool) (at_ : Int) (n : Nat) : Prop where
  ea : at_ = (n : Int)
  ef : fd = Ur b f n
  kn : KnR (fd.map T3.a) kn
  le : (fd.length : Int) ≤ limit
  ln : n ≤ fd.length
  go : rchM b f limit = rchF b f limit (limit.toNat + 1 - n) n
structure RcJ (b : Book) (f : RSt) (limit : Int) (n : Nat) (pre : List (Int × Rule)) (fd : List RRow) (kn : DN RSt Bool) : Prop where
  ef : fd = pre.foldl (exR (n : Int) (ix (Ur b f n) (n : Int)).a) (Ur b f n)
  kn : KnR (fd.map T3.a) kn
  le : (fd.length : Int) ≤ limit
section
variable {b : Book} {f : RSt} {limit : Int} {fd : List RRow} {kn : DN RSt Bool} {at_ : Int} {n : Nat} {pre post : List (Int × Rule)} {x : Int × Rule} {here : RSt}
theorem RcI.start (hl : 1 ≤ limit) : RcI b f limit [⟨f, none, none⟩] ⟨[(f, true)]⟩ 0 0 := ⟨rfl, rfl, rfl, by show ((1 : Nat) : Int) ≤ limit; omega, Nat.zero_le _, by unfold rchM; rfl⟩
theorem RcI.into (h : RcI b f limit fd kn at_ n) : RcJ b f limit n [] fd kn := ⟨h.ef, h.kn, h.le⟩
theorem RcI.hr_ (h : RcI b f limit fd kn at_ n) : ix fd at_ = ix (Ur b f n) (n : Int) := by rw [h.ef, h.ea]
theorem RcI.ok (h : RcI b f limit fd kn at_ n) (hb : BookOk b) (hf : StOk b f) (ha : at_ < (fd.length : Int)) : StOk b (ix fd at_).a := by
  have hn : n < (Us b f n).length := by rw [← Ur_len, ← h.ef]; have := h.ea; omega
  have := Us_ok hb hf n _ (ix_inS hn)
  rw [h.hr_, ← ix_mapA (by rw [Ur_len]; exact hn), Ur_map]
  exact this
theorem RcJ.snoc {fd' : List RRow} (h : RcJ b f limit n pre fd kn) (e : fd' = exR (n : Int) (ix (Ur b f n) (n : Int)).a fd x) (k : DN RSt Bool) (hk : KnR (fd'.map T3.a) k) (hl : (fd'.length : Int) ≤ limit) : RcJ b f limit n (pre ++ [x]) fd' k :=
  ⟨by rw [e, List.foldl_append, ← h.ef]; rfl, hk, hl⟩
theorem RcJ.no (h : RcJ b f limit n pre fd kn) (hh : here = (ix (Ur b f n) (n : Int)).a) (hc : canM here x.2 = false) : RcJ b f limit n (pre ++ [x]) fd kn :=
  h.snoc (by unfold exR; rw [← hh, if_neg (by rw [hc]; decide)]) kn h.kn h.le
theorem RcJ.old (h : RcJ b f limit n pre fd kn) (hh : here = (ix (Ur b f n) (n : Int)).a) (hc : canM here x.2 = true) (hk : (kn.get? (comesM here x.2)).isSome = true) : RcJ b f limit n (pre ++ [x]) fd kn :=
  h.snoc (by unfold exR; rw [← hh, if_pos hc, if_pos (by rw [h.kn.has] at hk; exact of_decide_eq_true hk)]) kn h.kn h.le
theorem RcJ.new (h : RcJ b f limit n pre fd kn) (hh : here = (ix (Ur b f n) (n : Int)).a) (hc : canM here x.2 = true) (hk : (kn.get? (comesM here x.2)).isSome = false) (hl : ¬ (fd.length : Int) = limit) :
    RcJ b f limit n (pre ++ [x]) (fd ++ [⟨comesM here x.2, some (n : Int), some x.1⟩]) (kn.put (comesM here x.2) true) := by
  have hm : comesM here x.2 ∉ fd.map T3.a := by rw [h.kn.has] at hk; exact of_decide_eq_false hk
  have := h.le
  exact h.snoc (by unfold exR; rw [← hh, if_pos hc, if_neg hm]) _ (by rw [List.map_append]; exact h.kn.put hm) (by rw [List.length_append, List.length_singleton]; omega)
theorem RcI.step (h : RcI b f limit fd kn at_ n) (ha : at_ < (fd.length : Int)) : rchM b f limit = if limit < ((Ur b f (n + 1)).length : Int) then .inl .tooMany else rchF b f limit (limit.toNat + 1 - (n + 1)) (n + 1) := by
  have h1 := h.ea
  have h2 := h.le
  rw [h.go, show limit.toNat + 1 - n = (limit.toNat + 1 - (n + 1)) + 1 by omega]
  show (if n < (Ur b f n).length then _ else _) = _
  rw [if_pos (by rw [← h.ef]; omega)]
theorem Ur_succ (h : n < (Ur b f n).length) : Ur b f (n + 1) = (enumI b.d.l).foldl (exR (n : Int) (ix (Ur b f n) (n : Int)).a) (Ur b f n) := by
  show (if n < (Ur b f n).length then nxR b (Ur b f n) n else Ur b f n) = _
  rw [if_pos h]; rfl
theorem RcJ.err {fd0 : List RRow} {kn0 : DN RSt Bool} (hI : RcI b f limit fd0 kn0 at_ n) (ha : at_ < (fd0.length : Int)) (h : RcJ b f limit n pre fd kn) (ex : pre ++ x :: post = enumI b.d.l) (hh : here = (ix (Ur b f n) (n : Int)).a) (hc : canM here x.2 = true)
    (hk : (kn.get? (comesM here x.2)).isSome = false) (hl : (fd.length : Int) = limit) : rchM b f limit = .inl .tooMany := by
  have hn : n < (Ur b f n).length := by rw [← hI.ef]; have := hI.ea; omega
  rw [hI.step ha, if_pos]
  rw [Ur_succ hn, ← ex, List.foldl_append, ← h.ef, List.foldl_cons]
  have hm : comesM here x.2 ∉ fd.map T3.a := by rw [h.kn.has] at hk; exact of_decide_eq_false hk
  have h1 : exR (n : Int) (ix (Ur b f n) (n : Int)).a fd x = fd ++ [⟨comesM here x.2, some (n : Int), some x.1⟩] := by unfold exR; rw [← hh, if_pos hc, if_neg hm]
  have h2 := exRs_len (a := (n : Int)) (here := (ix (Ur b f n) (n : Int)).a) post (exR (n : Int) (ix (Ur b f n) (n : Int)).a fd x)
  have h3 : (exR (n : Int) (ix (Ur b f n) (n : Int)).a fd x).length = fd.length + 1 := by rw [h1, List.length_append]; rfl
  omega
theorem RcI.next {fd0 : List RRow} {kn0 : DN RSt Bool} (hI : RcI b f limit fd0 kn0 at_ n) (ha : at_ < (fd0.length : Int)) (h : RcJ b f limit n (enumI b.d.l) fd kn) : RcI b f limit fd kn (at_ + 1) (n + 1) := by
  have hn : n < (Ur b f n).length := by rw [← hI.ef]; have := hI.ea; omega
  have e : fd = Ur b f (n + 1) := by rw [Ur_succ hn]; exact h.ef
  have hle := h.le
  have g := hI.step ha
  rw [if_neg (by rw [← e]; omega)] at g
  refine ⟨by rw [hI.ea]; rfl, e, h.kn, hle, ?_, g⟩
  have h2 := exRs_len (a := (n : Int)) (here := (ix (Ur b f n) (n : Int)).a) (enumI b.d.l) (Ur b f n)
  rw [← h.ef] at h2
  omega
theorem RcI.end_ (h : RcI b f limit fd kn at_ n) (ha : ¬ at_ < (fd.length : Int)) : rchM b f limit = .inr fd := by
  have h1 := h.ea
  have h2 := h.le
  have h3 := h.ln
  rw [h.go, show limit.toNat + 1 - n = (limit.toNat - n) + 1 by omega]
  show (if n < (Ur b f n).length then _ else _) = _
  rw [if_neg (by rw [← h.ef]; omega), h.ef]
theorem rch_err {e : XC} (h : rchM b f limit = .inl e) : e = .tooMany ∧ rchM b f limit = .inl .tooMany := by obtain ⟨rfl, _⟩ := rch_inl h; exact ⟨rfl, h⟩
structure RcOk (b : Book) (f : RSt) (limit : Int) (rows : List RRow) : Prop where
  ne : 0 < rows.length
  le : (rows.length : Int) ≤ limit
  ok : ∀ r ∈ rows, StOk b r.a
  ro : RowsOk b f rows
theorem rch_ok {rows : List RRow} (hb : BookOk b) (hf : StOk b f) (hl : 1 ≤ limit) (h : rchM b f limit = .inr rows) : RcOk b f limit rows := by
  obtain ⟨m, rfl, h1, h2⟩ := rch_inr hl h
  have ro := Ur_ok (b := b) (f := f) m
  refine ⟨(List.getElem?_eq_some_iff.mp ro.z).1, by omega, fun r hr => ?_, ro⟩
  have : r.a ∈ Us b f m := by rw [← Ur_map]; exact List.mem_map_of_mem hr
  exact Us_ok hb hf m _ this
end
structure AlI (b : Book) (most : Int) (fd : List RSt) (kn : DN RSt Bool) (at_ : Int) (n : Nat) : Prop where
  ea : at_ = (n : Int)
  ef : fd = Us b firstS n
  kn : KnR fd kn
  ln : n ≤ fd.length
  nm : (n : Int) ≤ most + 1
  bd : (fd.length : Int) ≤ most + 101
  go : allM b most = allF b firstS most (most.toNat + 1 - n) n
structure AlJ (b : Book) (n : Nat) (pre : List Rule) (fd : List RSt) (kn : DN RSt Bool) : Prop where
  ef : fd = pre.foldl (exS (ix (Us b firstS n) (n : Int))) (Us b firstS n)
  kn : KnR fd kn
  bd : fd.length ≤ (Us b firstS n).length + pre.length
section
variable {b : Book} {most : Int} {fd : List RSt} {kn : DN RSt Bool} {at_ : Int} {n : Nat} {pre post : List Rule} {x : Rule} {here : RSt}
theorem AlI.start (hm : 0 ≤ most) : AlI b most [firstS] ⟨[(firstS, true)]⟩ 0 0 := ⟨rfl, rfl, rfl, Nat.zero_le _, by omega, by show ((1 : Nat) : Int) ≤ most + 101; omega, by unfold allM; rfl⟩
theorem AlI.into (h : AlI b most fd kn at_ n) : AlJ b n [] fd kn := ⟨h.ef, h.kn, by rw [h.ef]; exact Nat.le_refl _⟩
theorem AlI.ok (h : AlI b most fd kn at_ n) (hb : BookOk b) (ha : at_ < (fd.length : Int)) : StOk b (ix fd at_) := by
  rw [h.ef, h.ea]
  exact Us_ok hb (first_ok hb) n _ (ix_inS (by rw [← h.ef]; have := h.ea; omega))
theorem AlJ.snoc {fd' : List RSt} (h : AlJ b n pre fd kn) (e : fd' = exS (ix (Us b firstS n) (n : Int)) fd x) (k : DN RSt Bool) (hk : KnR fd' k) (hl : fd'.length ≤ fd.length + 1) : AlJ b n (pre ++ [x]) fd' k :=
  ⟨by rw [e, List.foldl_append, ← h.ef]; rfl, hk, by have := h.bd; rw [List.length_append, List.length_singleton]; omega⟩
theorem AlJ.no (h : AlJ b n pre fd kn) (hh : here = ix (Us b firstS n) (n : Int)) (hc : canM here x = false) : AlJ b n (pre ++ [x]) fd kn :=
  h.snoc (by unfold exS; rw [← hh, if_neg (by rw [hc]; decide)]) kn h.kn (by omega)
theorem AlJ.old (h : AlJ b n pre fd kn) (hh : here = ix (Us b firstS n) (n : Int)) (hc : canM here x = true) (hk : (kn.get? (comesM here x)).isSome = true) : AlJ b n (pre ++ [x]) fd kn :=
  h.snoc (by unfold exS; rw [← hh, if_pos hc, if_pos (by rw [h.kn.has] at hk; exact of_decide_eq_true hk)]) kn h.kn (by omega)
theorem AlJ.new (h : AlJ b n pre fd kn) (hh : here = ix (Us b firstS n) (n : Int)) (hc : canM here x = true) (hk : (kn.get? (comesM here x)).isSome = false) : AlJ b n (pre ++ [x]) (fd ++ [comesM here x]) (kn.put (comesM here x) true) := by
  have hm : comesM here x ∉ fd := by rw [h.kn.has] at hk; exact of_decide_eq_false hk
  exact h.snoc (by unfold exS; rw [← hh, if_pos hc, if_neg hm]) _ (h.kn.put hm) (by rw [List.length_append]; exact Nat.le_refl _)
theorem AlJ.le0 (h : AlJ b n pre fd kn) : (Us b firstS n).length ≤ fd.length := by rw [h.ef]; exact (exSs_pre _ _).length_le
theorem AlJ.at0 (h : AlJ b n pre fd kn) (hn : n < (Us b firstS n).length) : ix fd (n : Int) = ix (Us b firstS n) (n : Int) := by
  have hp : Us b firstS n <+: fd := by rw [h.ef]; exact exSs_pre _ _
  obtain ⟨t, rfl⟩ := hp
  unfold ix
  rw [List.getD_eq_getElem?_getD, List.getD_eq_getElem?_getD, Int.toNat_natCast, List.getElem?_append_left hn]
theorem AlI.next {fd0 : List RSt} {kn0 : DN RSt Bool} (hb : BookOk b) (hI : AlI b most fd0 kn0 at_ n) (ha : at_ < (fd0.length : Int)) (hm : (fd0.length : Int) ≤ most) (h : AlJ b n b.d.l fd kn) : AlI b most fd kn (at_ + 1) (n + 1) := by
  have h1 := hI.ea
  have hn : n < (Us b firstS n).length := by rw [← hI.ef]; omega
  have e : fd = Us b firstS (n + 1) := by
    rw [h.ef]
    show _ = (if n < (Us b firstS n).length then nxS b (Us b firstS n) n else _)
    rw [if_pos hn]; rfl
  have hpre := (exSs_pre (here := ix (Us b firstS n) (n : Int)) b.d.l (Us b firstS n)).length_le
  rw [← h.ef] at hpre
  have hbd := h.bd
  have hmany := hb.many
  have hl0 : (fd0.length : Int) = ((Us b firstS n).length : Int) := by rw [hI.ef]
  refine ⟨by rw [h1]; rfl, e, h.kn, by omega, by omega, by omega, ?_⟩
  rw [hI.go, show most.toNat + 1 - n = (most.toNat + 1 - (n + 1)) + 1 by omega]
  show (if n < (Us b firstS n).length ∧ ((Us b firstS n).length : Int) ≤ most then _ else _) = _
  rw [if_pos ⟨hn, by omega⟩]
theorem AlI.end_ (h : AlI b most fd kn at_ n) (ha : (decide (at_ < (fd.length : Int)) && decide ((fd.length : Int) ≤ most)) = false) : fd = allM b most := by
  have h1 := h.ea
  have h3 := h.ln
  have h4 := h.nm
  have hno : ¬ (n < (Us b firstS n).length ∧ ((Us b firstS n).length : Int) ≤ most) := fun c => by
    rw [← h.ef] at c
    rw [decide_eq_true (by omega), decide_eq_true c.2] at ha
    cases ha
  rw [h.go]
  cases e : most.toNat + 1 - n with
  | zero => unfold allF; exact h.ef
  | succ k =>
    show fd = (if n < (Us b firstS n).length ∧ ((Us b firstS n).length : Int) ≤ most then _ else _)
    rw [if_neg hno]; exact h.ef
end
structure StI (fd : List RRow) (at0 : Int) (st : List Int × Int) (k : Nat) : Prop where
  bd : 0 ≤ st.2 ∧ st.2 < (fd.length : Int)
  kk : st.2.toNat < k
  kl : st.1.length + k ≤ fd.length + 1
  go : (stepsF fd k st.2 st.1).reverse = stepsM fd at0
section
variable {b : Book} {f : RSt} {fd : List RRow} {at0 : Int} {steps : List Int} {at_ : Int} {k : Nat}
theorem StI.start (h : 0 ≤ at0 ∧ at0 < (fd.length : Int)) : StI fd at0 ([], at0) (at0.toNat + 1) := ⟨h, by dsimp only; omega, by dsimp only; rw [List.length_nil]; omega, by unfold stepsM; rfl⟩
theorem row_some (h : RowsOk b f fd) (hb : 0 ≤ at_ ∧ at_ < (fd.length : Int)) (c : (ix fd at_).b.isSome = true) : (ix fd at_).c.isSome = true ∧ 0 ≤ (ix fd at_).b.getD default ∧ (ix fd at_).b.getD default < at_ := by
  have hr := ix_at (xs := fd) (i := at_) hb.1 hb.2
  cases e : at_.toNat with
  | zero =>
    rw [e, h.z] at hr
    rw [← Option.some.inj hr] at c
    cases c
  | succ q =>
    rw [e] at hr
    obtain ⟨p, num, pr, e1, e2, e3, e4, _⟩ := h.s q _ hr
    rw [e1, e2]
    refine ⟨rfl, by show (0 : Int) ≤ (p : Int); omega, by show (p : Int) < at_; omega⟩
theorem StI.next (h : RowsOk b f fd) (hI : StI fd at0 (steps, at_) k) (c : (ix fd at_).b.isSome = true) : ∃ k', k' + 1 = k ∧ StI fd at0 (steps ++ [(ix fd at_).c.getD default], (ix fd at_).b.getD default) k' := by
  obtain ⟨hb, hk, hl, hg⟩ := hI
  dsimp only at hb hk hl hg
  obtain ⟨r1, r2, r3⟩ := row_some h hb c
  cases k with
  | zero => omega
  | succ k' =>
    refine ⟨k', rfl, ⟨r2, by dsimp only; omega⟩, by dsimp only; omega, by dsimp only; rw [List.length_append, List.length_singleton]; omega, ?_⟩
    rw [← hg]
    conv => rhs; unfold stepsF
    rw [if_pos c]
theorem StI.end_ (hI : StI fd at0 (steps, at_) k) (c : (ix fd at_).b.isSome = false) : steps.reverse = stepsM fd at0 := by
  obtain ⟨hb, hk, hl, hg⟩ := hI
  dsimp only at hb hk hl hg
  rw [← hg]
  cases k with
  | zero => rfl
  | succ k =>
    unfold stepsF
    rw [if_neg (by rw [c]; decide)]
end
abbrev TwR := Str × Sum (List Int) (List RSt)
def twoB (b : Book) (rows : List RRow) (_ : Unit) (x : Int × RRow) : Fl Unit TwR := if (rnsM b x.2.a).length = 2 then .rt (Str.ofString "two", .inl (stepsM rows x.1)) else .nx ()
def twoR (b : Book) (rows : List RRow) : TwR := forL (twoB b rows) (fun _ => (Str.ofString "never", .inr (rows.map fun row => row.a))) (enumI rows) ()
@[irreducible] def twoX (b : Book) (limit : Int) : XC ⊕ TwR := match rchM b firstS limit with | .inl e => .inl e | .inr rows => .inr (twoR b rows)
section
variable {b : Book} {limit : Int} {rows : List RRow}
theorem two_rt {x : Int × RRow} (h : decide (((rnsM b x.2.a).length : Int) = 2) = true) : twoB b rows () x = .rt (Str.ofString "two", .inl (stepsM rows x.1)) := by
  have := of_decide_eq_true h
  unfold twoB
  rw [if_pos (by omega)]
theorem two_nx {x : Int × RRow} (h : decide (((rnsM b x.2.a).length : Int) = 2) = false) : twoB b rows () x = .nx () := by
  have := of_decide_eq_false h
  unfold twoB
  rw [if_neg (by omega)]
theorem in_enumR {pre post : List (Int × RRow)} {x : Int × RRow} (e : pre ++ x :: post = enumI rows) : (0 ≤ x.1 ∧ x.1 < (rows.length : Int)) ∧ x.2 ∈ rows := by
  have hx : x ∈ enumI rows := by rw [← e]; simp
  unfold enumI at hx
  obtain ⟨⟨y, k⟩, hy, rfl⟩ := List.mem_map.mp hx
  have h2 := List.mk_mem_zipIdx_iff_getElem?.mp hy
  have h3 := (List.getElem?_eq_some_iff.mp h2).1
  exact ⟨⟨by dsimp only; omega, by dsimp only; omega⟩, List.mem_of_getElem? h2⟩
theorem two_inl {e : XC} (h : rchM b firstS limit = .inl e) : twoX b limit = .inl e := by unfold twoX; rw [h]
theorem two_inr {y : TwR} (h : rchM b firstS limit = .inr rows) (hy : y = twoR b rows) : twoX b limit = .inr y := by unfold twoX; rw [h, hy]
end
end GL
namespace GL
open PySem PySem.Spec PyProof.Rows L2
def whD (d : Dat) : Bool := d.isI && !d.isBl
theorem whD_int {d : Dat} : whD d = d.isInt := by cases d <;> rfl
theorem isInt_eq {d : Dat} (h : d.isInt = true) : d = .int d.toI := by cases d <;> first | rfl | cases h
noncomputable def dec (p : Prop) : Bool := @decide p (Classical.propDecidable p)
theorem dec_t {p : Prop} (h : p) : dec p = true := by unfold dec; exact @decide_eq_true p (Classical.propDecidable p) h
theorem dec_f {p : Prop} (h : ¬ p) : dec p = false := by unfold dec; exact @decide_eq_false p (Classical.propDecidable p) h
theorem of_dec {p : Prop} (h : dec p = true) : p := by unfold dec at h; exact @of_decide_eq_true p (Classical.propDecidable p) h
theorem of_decF {p : Prop} (h : dec p = false) : ¬ p := by unfold dec at h; exact @of_decide_eq_false p (Classical.propDecidable p) h
def LtD (n : Int) (d : Dat) : Prop := ∃ l : List Int, d = .tup (l.map Dat.int) ∧ LtsOk n l
@[irreducible] noncomputable def ltD (n : Int) (d : Dat) : Bool := dec (LtD n d)
def lastO (l : List Int) : Int := l.getLast?.getD (-1)
theorem lastO_snoc {l : List Int} {x : Int} : lastO (l ++ [x]) = x := by unfold lastO; simp
theorem lastO_le {n : Int} {l : List Int} (h : LtsOk n l) : -1 ≤ lastO l ∧ ∀ y ∈ l, y ≤ lastO l := by
  unfold lastO
  cases e : l.getLast? with
  | none =>
    rw [List.getLast?_eq_none_iff] at e
    subst e
    exact ⟨by simp, fun y hy => by cases hy⟩
  | some z =>
    obtain ⟨l', rfl⟩ := List.getLast?_eq_some_iff.mp e
    have hb := h.bd z (by simp)
    refine ⟨by show -1 ≤ z; omega, fun y hy => ?_⟩
    show y ≤ z
    rcases List.mem_append.mp hy with q | q
    · have := (List.pairwise_append.mp h.so).2.2 y q z (by simp)
      omega
    · rw [List.mem_singleton.mp q]; exact Int.le_refl _
theorem lts_snoc {n : Int} {l : List Int} {x : Int} (h : LtsOk n l) (h1 : lastO l < x) (h2 : x < n) : LtsOk n (l ++ [x]) := by
  obtain ⟨g1, g2⟩ := lastO_le h
  refine ⟨List.pairwise_append.mpr ⟨h.so, by simp, fun a ha b hb => ?_⟩, fun y hy => ?_⟩
  · rw [List.mem_singleton.mp hb]
    have := g2 a ha
    omega
  · rcases List.mem_append.mp hy with q | q
    · exact h.bd y q
    · rw [List.mem_singleton.mp q]; omega
structure LtI (n : Int) (pre : List Dat) (last : Int) : Prop where
  ex : ∃ l : List Int, pre = l.map Dat.int ∧ LtsOk n l ∧ last = lastO l
theorem LtI.start {n : Int} : LtI n [] (-1) := ⟨⟨[], rfl, ⟨List.Pairwise.nil, fun x q => by cases q⟩, rfl⟩⟩
theorem LtI.next {n last : Int} {pre : List Dat} {x : Dat} (h : LtI n pre last) (hx : x.isInt = true) (h1 : last < x.toI) (h2 : x.toI < n) : LtI n (pre ++ [x]) x.toI := by
  obtain ⟨l, rfl, hl, rfl⟩ := h.ex
  refine ⟨⟨l ++ [x.toI], ?_, lts_snoc hl h1 h2, lastO_snoc.symm⟩⟩
  rw [List.map_append, List.map_singleton, ← isInt_eq hx]
theorem int_inj : ∀ {l l' : List Int}, l.map Dat.int = l'.map Dat.int → l = l' := fun {l l'} h => by
  have : Function.Injective Dat.int := fun a b e => by cases e; rfl
  exact (List.map_inj_right (fun a b e => this e)).mp h
theorem LtI.no {n last : Int} {pre post : List Dat} {x : Dat} (h : LtI n pre last) (hx : (!x.isInt || (decide (x.toI ≤ last) || decide (n ≤ x.toI))) = true) : ¬ LtD n (.tup (pre ++ x :: post)) := fun ⟨l', e, hl'⟩ => by
  obtain ⟨l, rfl, hl, rfl⟩ := h.ex
  injection e with e
  obtain ⟨m1, m2, rfl, e1, e2⟩ := List.map_eq_append_iff.mp e.symm
  obtain ⟨k, m3, rfl, rfl, e3⟩ := List.map_eq_cons_iff.mp e2
  have em := int_inj e1
  subst em
  have hp := (List.pairwise_append.mp hl'.so).2.2
  have hlt : lastO m1 < k := by
    unfold lastO
    cases q : m1.getLast? with
    | none => have := hl'.bd k (by simp); show -1 < k; omega
    | some z => exact hp z (List.mem_of_getLast? q) k (by simp)
  have hb := hl'.bd k (by simp)
  have hx : (!true || (decide (k ≤ lastO m1) || decide (n ≤ k))) = true := hx
  rw [decide_eq_false (by omega), decide_eq_false (by omega)] at hx
  cases hx
theorem LtI.yes {n last : Int} {l : List Dat} (h : LtI n l last) : LtD n (.tup l) := by
  obtain ⟨l', rfl, hl, _⟩ := h.ex
  exact ⟨l', rfl, hl⟩
theorem LtD.tup {n : Int} {d : Dat} (h : LtD n d) : d.isT = true := by obtain ⟨l, rfl, _⟩ := h; rfl
theorem tup_eq {d : Dat} (h : d.isT = true) : d = .tup d.items := by cases d <;> first | rfl | cases h
theorem lst_eq {d : Dat} (h : d.isL = true) : d = .lst d.items := by cases d <;> first | rfl | cases h
def StD (b : Book) (d : Dat) : Prop := ∃ s : RSt, d = ToD.dat s ∧ StOk b s
@[irreducible] noncomputable def stD (b : Book) (d : Dat) : Bool := dec (StD b d)
def stOf : Dat → RSt
  | .tup [.int a, .int b, .tup c, .tup d] => ⟨a, b, ⟨c.map Dat.toI⟩, ⟨d.map Dat.toI⟩⟩
  | _ => firstS
theorem toI_map (l : List Int) : (l.map Dat.int).map Dat.toI = l := by
  rw [List.map_map]
  exact List.map_id' l
theorem stOf_dat (s : RSt) : stOf (ToD.dat s) = s := by
  obtain ⟨a, b, ⟨c⟩, ⟨d⟩⟩ := s
  show (⟨a, b, ⟨(c.map Dat.int).map Dat.toI⟩, ⟨(d.map Dat.int).map Dat.toI⟩⟩ : RSt) = _
  rw [toI_map, toI_map]
theorem stOf_eq {d : Dat} (h : ∃ s : RSt, d = ToD.dat s) : d = ToD.dat (stOf d) := by obtain ⟨s, rfl⟩ := h; rw [stOf_dat]
theorem dat_injS {s t : RSt} (h : (ToD.dat s : Dat) = ToD.dat t) : s = t := by rw [← stOf_dat s, h, stOf_dat]
theorem EvX.datS {K : Fg} {G G1 : List Sl} {te : TE} {d : Dat} (h : EvX K te G d G1) (e : ∃ s : RSt, d = ToD.dat s) : EvX K te G (stOf d) G1 := h.datSt (stOf_eq e)
theorem StD.ex {b : Book} {d : Dat} (h : StD b d) : ∃ s : RSt, d = ToD.dat s := by obtain ⟨s, e, _⟩ := h; exact ⟨s, e⟩
theorem StD.ok {b : Book} {d : Dat} (h : StD b d) : StOk b (stOf d) := by obtain ⟨s, rfl, hs⟩ := h; rw [stOf_dat]; exact hs
theorem StD.eq {b : Book} {d : Dat} (h : StD b d) : d = ToD.dat (stOf d) := stOf_eq h.ex
theorem st_iff {b : Book} {l : List Dat} (h4 : l.length = 4) : StD b (.tup l) ↔ ((ix l 0).isInt = true ∧ 0 ≤ (ix l 0).toI ∧ (ix l 0).toI < (b.a.l.length : Int)) ∧ ((ix l 1).isInt = true ∧ 0 ≤ (ix l 1).toI ∧ (ix l 1).toI < (b.b.l.length : Int)) ∧ LtD b.c (ix l 2) ∧ LtD b.c (ix l 3) := by
  match l, h4 with
  | [x0, x1, x2, x3], _ =>
    show StD b (.tup [x0, x1, x2, x3]) ↔ (x0.isInt = true ∧ 0 ≤ x0.toI ∧ x0.toI < (b.a.l.length : Int)) ∧ (x1.isInt = true ∧ 0 ≤ x1.toI ∧ x1.toI < (b.b.l.length : Int)) ∧ LtD b.c x2 ∧ LtD b.c x3
    constructor
    · rintro ⟨s, e, hs⟩
      have e : Dat.tup [x0, x1, x2, x3] = .tup [.int s.a, .int s.b, .tup (s.c.l.map Dat.int), .tup (s.d.l.map Dat.int)] := e
      simp only [Dat.tup.injEq, List.cons.injEq, and_true] at e
      obtain ⟨rfl, rfl, rfl, rfl⟩ := e
      exact ⟨⟨rfl, hs.old⟩, ⟨rfl, hs.new⟩, ⟨_, rfl, hs.lo⟩, ⟨_, rfl, hs.ln⟩⟩
    · rintro ⟨⟨a1, a2⟩, ⟨b1, b2⟩, ⟨c, rfl, hc⟩, ⟨d, rfl, hd⟩⟩
      refine ⟨⟨x0.toI, x1.toI, ⟨c⟩, ⟨d⟩⟩, ?_, ⟨a2, b2, hc, hd⟩⟩
      show Dat.tup [x0, x1, _, _] = .tup [.int x0.toI, .int x1.toI, .tup (c.map Dat.int), .tup (d.map Dat.int)]
      rw [← isInt_eq a1, ← isInt_eq b1]
theorem st_shape {b : Book} {d : Dat} (h : StD b d) : d.isT = true ∧ d.items.length = 4 := by obtain ⟨s, rfl, _⟩ := h; exact ⟨rfl, rfl⟩
def ClP (b : Book) (f : RSt) (d : Dat) : Prop := ∃ ss : List RSt, d = .lst (ss.map ToD.dat) ∧ (∀ s ∈ ss, StOk b s) ∧ ss.Nodup ∧ f ∈ ss ∧ ∀ s ∈ ss, ∀ r ∈ b.d.l, canM s r = true → comesM s r ∈ ss
@[irreducible] noncomputable def clD (b : Book) (f : RSt) (d : Dat) : Bool := dec (ClP b f d)
structure ClI (b : Book) (pre : List Dat) (kn : DN RSt Bool) : Prop where
  st : ∀ x ∈ pre, StD b x
  nd : (pre.map stOf).Nodup
  kn : KnR (pre.map stOf) kn
section
variable {b : Book} {f : RSt} {pre post l : List Dat} {x : Dat} {kn : DN RSt Bool}
theorem ClI.start : ClI b [] DN.emp := ⟨fun x h => (by cases h), List.Pairwise.nil, rfl⟩
theorem ClI.next (h : ClI b pre kn) (hx : StD b x) (hk : (kn.get? (stOf x)).isSome = false) : ClI b (pre ++ [x]) (kn.put (stOf x) true) := by
  have hm : stOf x ∉ pre.map stOf := by rw [h.kn.has] at hk; exact of_decide_eq_false hk
  refine ⟨fun y hy => ?_, ?_, by rw [List.map_append]; exact h.kn.put hm⟩
  · rcases List.mem_append.mp hy with q | q
    · exact h.st y q
    · rw [List.mem_singleton.mp q]; exact hx
  · rw [List.map_append]
    exact List.nodup_append.mpr ⟨h.nd, by simp, fun a ha c hc => by rw [List.map_singleton, List.mem_singleton] at hc; rw [hc]; exact fun e => hm (e ▸ ha)⟩
theorem cl_list {ss : List RSt} : (ss.map (ToD.dat : RSt → Dat)).map stOf = ss := by
  rw [List.map_map]
  have : (stOf ∘ (ToD.dat : RSt → Dat)) = id := funext fun s => stOf_dat s
  rw [this, List.map_id]
theorem ClI.noSt (ex : pre ++ x :: post = l) (hx : ¬ StD b x) : ¬ ClP b f (.lst l) := fun ⟨ss, e, h1, _⟩ => by
  injection e with e
  rw [e] at ex
  have : x ∈ ss.map (ToD.dat : RSt → Dat) := by rw [← ex]; simp
  obtain ⟨s, hs, rfl⟩ := List.mem_map.mp this
  exact hx ⟨s, rfl, h1 s hs⟩
theorem ClI.noNd (h : ClI b pre kn) (ex : pre ++ x :: post = l) (hk : (kn.get? (stOf x)).isSome = true) : ¬ ClP b f (.lst l) := fun ⟨ss, e, _, h2, _⟩ => by
  injection e with e
  have hm : stOf x ∈ pre.map stOf := by rw [h.kn.has] at hk; exact of_decide_eq_true hk
  have h3 : (l.map stOf).Nodup := by rw [e, cl_list]; exact h2
  rw [← ex, List.map_append, List.map_cons] at h3
  exact (List.nodup_append.mp h3).2.2 _ hm _ List.mem_cons_self rfl
def ClR (b : Book) (l pre : List Dat) : Prop := ∀ x ∈ pre, ∀ r ∈ b.d.l, canM (stOf x) r = true → comesM (stOf x) r ∈ l.map stOf
def ClQ (l : List Dat) (s : RSt) (pre : List Rule) : Prop := ∀ r ∈ pre, canM s r = true → comesM s r ∈ l.map stOf
theorem ClQ.next {s : RSt} {pr : List Rule} {r : Rule} (h : ClQ l s pr) (kk : KnR (l.map stOf) kn) (hr : (canM s r && !(kn.get? (comesM s r)).isSome) = false) : ClQ l s (pr ++ [r]) := fun q hq hc => by
  rcases List.mem_append.mp hq with z | z
  · exact h q z hc
  · rw [List.mem_singleton.mp z] at hc ⊢
    rw [hc, kk.has] at hr
    simpa using hr
theorem ClQ.no {s : RSt} {r : Rule} (kk : KnR (l.map stOf) kn) (ex : pre ++ x :: post = l) (es : s = stOf x) (hm : r ∈ b.d.l) (hr : (canM s r && !(kn.get? (comesM s r)).isSome) = true) : ¬ ClP b f (.lst l) := fun ⟨ss, e, _, _, _, h5⟩ => by
  injection e with e
  have hs : s ∈ ss := by
    rw [es, ← cl_list (ss := ss), ← e, ← ex]
    simp
  obtain ⟨c1, c2⟩ := Bool.and_eq_true_iff.mp hr
  have := h5 s hs r hm c1
  rw [kk.has, e, cl_list, decide_eq_true this] at c2
  cases c2
theorem ClR.next (h : ClR b l pre) (q : ClQ l (stOf x) b.d.l) : ClR b l (pre ++ [x]) := fun y hy => by
  rcases List.mem_append.mp hy with z | z
  · exact h y z
  · rw [List.mem_singleton.mp z]; exact q
theorem ClI.end_ (h : ClI b l kn) (hr : ClR b l l) : (kn.get? f).isSome = dec (ClP b f (.lst l)) := by
  rw [h.kn.has]
  by_cases hf : f ∈ l.map stOf
  · rw [decide_eq_true hf]
    refine (dec_t ⟨l.map stOf, ?_, fun s hs => ?_, h.nd, hf, fun s hs => ?_⟩).symm
    · rw [List.map_map]
      congr 1
      conv => lhs; rw [← List.map_id l]
      refine List.map_congr_left fun x hx => ?_
      exact (h.st x hx).eq
    · obtain ⟨x, hx, rfl⟩ := List.mem_map.mp hs
      exact (h.st x hx).ok
    · obtain ⟨x, hx, rfl⟩ := List.mem_map.mp hs
      exact hr x hx
  · rw [decide_eq_false hf]
    refine (dec_f fun ⟨ss, e, _, _, h4, _⟩ => hf ?_).symm
    injection e with e
    rw [e, cl_list]
    exact h4
theorem ClI.all (h : ClI b l kn) (ex : pre ++ x :: post = l) : StD b x := h.st x (by rw [← ex]; simp)
end
section
variable {n last : Int} {d x : Dat} {pre post : List Dat} {b : Book} {f : RSt}
theorem lt_ret0 (h : (!d.isT) = true) : false = ltD n d := by
  unfold ltD
  exact (dec_f fun z => by rw [z.tup] at h; cases h).symm
theorem lt_ret1 (h : LtI n pre last) (ht : (!d.isT) = false) (ex : pre ++ x :: post = d.items) (hx : (!whD x || (decide (x.toI ≤ last) || decide (x.toI ≥ n))) = true) : false = ltD n d := by
  unfold ltD
  rw [whD_int] at hx
  rw [tup_eq (d := d) (by simpa using ht), ← ex]
  exact (dec_f (h.no hx)).symm
theorem lt_ret2 (h : LtI n d.items last) (ht : (!d.isT) = false) : true = ltD n d := by
  unfold ltD
  rw [tup_eq (d := d) (by simpa using ht)]
  exact (dec_t h.yes).symm
theorem lt_go (h : LtI n pre last) (hx : (!whD x || (decide (x.toI ≤ last) || decide (x.toI ≥ n))) = false) : LtI n (pre ++ [x]) x.toI := by
  rw [whD_int] at hx
  obtain ⟨h1, h2⟩ := Bool.or_eq_false_iff.mp hx
  obtain ⟨h2, h3⟩ := Bool.or_eq_false_iff.mp h2
  have := of_decide_eq_false h2
  have := of_decide_eq_false h3
  exact h.next (by simpa using h1) (by omega) (by omega)
theorem wh_int (h : (!whD x) = false) : x.isInt = true := by rw [whD_int] at h; simpa using h
theorem ob_int {a c : Bool} (h : (!whD x || (a || c)) = false) : x.isInt = true := wh_int (Bool.or_eq_false_iff.mp h).1
theorem all_snocS {α : Type} {P : α → Prop} {xs : List α} {x : α} (h : ∀ y ∈ xs, P y) (hx : P x) : ∀ y ∈ xs ++ [x], P y := fun y hy => by
  rcases List.mem_append.mp hy with q | q
  · exact h y q
  · rw [List.mem_singleton.mp q]; exact hx
def StH (b : Book) (d : Dat) (h : Int) : Prop := (ix d.items h).isInt = true ∧ 0 ≤ (ix d.items h).toI ∧ (ix d.items h).toI < ((t4i b h).l.length : Int)
theorem st_ret0 (h : (!d.isT || !decide ((d.items.length : Int) = 4)) = true) : false = stD b d := by
  unfold stD
  refine (dec_f fun z => ?_).symm
  obtain ⟨h1, h2⟩ := st_shape z
  rw [h1, decide_eq_true (by omega)] at h
  cases h
theorem st_four (h : (!d.isT || !decide ((d.items.length : Int) = 4)) = false) : d.isT = true ∧ d.items.length = 4 := by
  obtain ⟨h1, h2⟩ := Bool.or_eq_false_iff.mp h
  have : (d.items.length : Int) = 4 := by simpa using h2
  exact ⟨by simpa using h1, by omega⟩
theorem st_iffD (h4 : d.isT = true ∧ d.items.length = 4) : StD b d ↔ (StH b d 0 ∧ StH b d 1) ∧ LtD b.c (ix d.items 2) ∧ LtD b.c (ix d.items 3) := by
  have := st_iff (b := b) h4.2
  rw [← tup_eq h4.1] at this
  exact this.trans ⟨fun ⟨a, b, c, d⟩ => ⟨⟨a, b⟩, c, d⟩, fun ⟨⟨a, b⟩, c, d⟩ => ⟨a, b, c, d⟩⟩
theorem st_ret1 {h : Int} (h4 : d.isT = true ∧ d.items.length = 4) (hh : h = 0 ∨ h = 1) (hx : (!whD (ix d.items h) || !(decide (0 ≤ (ix d.items h).toI) && decide ((ix d.items h).toI < ((t4i b h).l.length : Int)))) = true) : false = stD b d := by
  unfold stD
  refine (dec_f fun z => ?_).symm
  obtain ⟨⟨z0, z1⟩, _⟩ := (st_iffD h4).mp z
  have zz : StH b d h := by rcases hh with rfl | rfl <;> assumption
  obtain ⟨q1, q2, q3⟩ := zz
  rw [whD_int, q1, decide_eq_true q2, decide_eq_true q3] at hx
  cases hx
theorem st_go {h : Int} (hx : (!whD (ix d.items h) || !(decide (0 ≤ (ix d.items h).toI) && decide ((ix d.items h).toI < ((t4i b h).l.length : Int)))) = false) : StH b d h := by
  rw [whD_int] at hx
  obtain ⟨h1, h2⟩ := Bool.or_eq_false_iff.mp hx
  have h3 : (decide (0 ≤ (ix d.items h).toI) && decide ((ix d.items h).toI < ((t4i b h).l.length : Int))) = true := by simpa using h2
  obtain ⟨h4, h5⟩ := Bool.and_eq_true_iff.mp h3
  exact ⟨by simpa using h1, of_decide_eq_true h4, of_decide_eq_true h5⟩
theorem st_ret2 (h4 : d.isT = true ∧ d.items.length = 4) (hh : ∀ h ∈ rng 0 2, StH b d h) : (ltD b.c (ix d.items 2) && ltD b.c (ix d.items 3)) = stD b d := by
  have h0 := hh 0 (by decide)
  have h1 := hh 1 (by decide)
  have e := st_iffD (b := b) h4
  unfold ltD stD
  by_cases q2 : LtD b.c (ix d.items 2)
  · by_cases q3 : LtD b.c (ix d.items 3)
    · rw [dec_t q2, dec_t q3, dec_t (e.mpr ⟨⟨h0, h1⟩, q2, q3⟩)]; rfl
    · rw [dec_f q3, dec_f (fun z => q3 (e.mp z).2.2), Bool.and_false]
  · rw [dec_f q2, dec_f (fun z => q2 (e.mp z).2.1), Bool.false_and]
theorem cl_ret0 (h : (!d.isL) = true) : false = clD b f d := by
  unfold clD
  refine (dec_f fun z => ?_).symm
  obtain ⟨ss, rfl, _⟩ := z
  cases h
theorem st_t {d : Dat} (h : stD b d = true) : StD b d := by unfold stD at h; exact of_dec h
theorem st_f {d : Dat} (h : stD b d = false) : ¬ StD b d := by unfold stD at h; exact of_decF h
end
section
variable {b : Book} {f : RSt} {d x : Dat} {pre post : List Dat} {kn : DN RSt Bool}
theorem cl_ret1 (h : ClI b pre kn) (hl : (!d.isL) = false) (ex : pre ++ x :: post = d.items) (hx : (!stD b x || (kn.get? (stOf x)).isSome) = true) : false = clD b f d := by
  unfold clD
  rw [lst_eq (d := d) (by simpa using hl)]
  refine (dec_f ?_).symm
  by_cases q : stD b x = true
  · rw [q] at hx
    exact h.noNd ex (by simpa using hx)
  · exact ClI.noSt ex (st_f (by simpa using q))
theorem cl_go (h : ClI b pre kn) (hx : (!stD b x || (kn.get? (stOf x)).isSome) = false) : ClI b (pre ++ [x]) (kn.put (stOf x) true) := by
  obtain ⟨h1, h2⟩ := Bool.or_eq_false_iff.mp hx
  exact h.next (st_t (by simpa using h1)) h2
theorem cl_ret2 {r : Rule} (kk : KnR (d.items.map stOf) kn) (hl : (!d.isL) = false) (ex : pre ++ x :: post = d.items) (hm : r ∈ b.d.l) (hr : (canM (stOf x) r && !(kn.get? (comesM (stOf x) r)).isSome) = true) : false = clD b f d := by
  unfold clD
  rw [lst_eq (d := d) (by simpa using hl)]
  exact (dec_f (ClQ.no kk ex rfl hm hr)).symm
theorem cl_ret3 (h : ClI b d.items kn) (hl : (!d.isL) = false) (hr : ClR b d.items d.items) : (kn.get? f).isSome = clD b f d := by
  unfold clD
  rw [h.end_ (f := f) hr, ← lst_eq (d := d) (by simpa using hl)]
end
end GL
namespace GL
open PySem PySem.Spec PyProof.Rows L2
def wTwo : Str := Str.ofString "two"
def wNever : Str := Str.ofString "never"
structure RightP (b : Book) (due : Bool) (d : Dat) : Prop where
  ex : ∃ w x, d = .tup [.str w, .lst x] ∧ (due = true → w = wTwo ∧ x.length ≤ 2000 ∧ ∃ l, alongM b x = some l ∧ (rnsM b (lastI l)).length = 2) ∧ (due = false → w = wNever ∧ x.length ≤ 1000 ∧ ClP b firstS (.lst x) ∧ ∀ y ∈ x, ¬ (rnsM b (stOf y)).length = 2)
def isRef {α : Type} (x : XC ⊕ α) : Bool := match x with | .inl _ => true | .inr _ => false
theorem two_find {b : Book} {rows : List RRow} {k : Unit → TwR} : ∀ xs : List (Int × RRow), (∃ x ∈ xs, (rnsM b x.2.a).length = 2 ∧ forL (twoB b rows) k xs () = (wTwo, .inl (stepsM rows x.1))) ∨ ((∀ x ∈ xs, ¬ (rnsM b x.2.a).length = 2) ∧ forL (twoB b rows) k xs () = k ())
  | [] => .inr ⟨(fun x hx => by cases hx), rfl⟩
  | y :: ys => by
    by_cases c : (rnsM b y.2.a).length = 2
    · refine .inl ⟨y, List.mem_cons_self, c, ?_⟩
      have hy : twoB b rows () y = .rt (wTwo, .inl (stepsM rows y.1)) := by unfold twoB; rw [if_pos c]; rfl
      unfold forL
      rw [hy]
    · have e : forL (twoB b rows) k (y :: ys) () = forL (twoB b rows) k ys () := by
        have hy : twoB b rows () y = .nx () := by unfold twoB; rw [if_neg c]
        conv => lhs; unfold forL
        rw [hy]
      rcases two_find (b := b) (rows := rows) (k := k) ys with ⟨x, hx, h1, h2⟩ | ⟨h1, h2⟩
      · exact .inl ⟨x, List.mem_cons_of_mem _ hx, h1, by rw [e]; exact h2⟩
      · exact .inr ⟨fun x hx => by rcases List.mem_cons.mp hx with rfl | hx; exact c; exact h1 x hx, by rw [e]; exact h2⟩
theorem stepsF_len {fd : List RRow} : ∀ (k : Nat) (at_ : Int) (acc : List Int), (stepsF fd k at_ acc).length ≤ acc.length + k
  | 0, _, acc => by unfold stepsF; omega
  | k + 1, at_, acc => by
    unfold stepsF
    split
    · have := stepsF_len (fd := fd) k ((ix fd at_).b.getD default) (acc ++ [(ix fd at_).c.getD default])
      rw [List.length_append, List.length_singleton] at this
      omega
    · omega
theorem stepsM_len {fd : List RRow} {at_ : Int} (h : 0 ≤ at_ ∧ at_ < (fd.length : Int)) : (stepsM fd at_).length ≤ fd.length := by
  unfold stepsM
  rw [List.length_reverse]
  have := stepsF_len (fd := fd) (at_.toNat + 1) at_ []
  rw [List.length_nil] at this
  omega
section
variable {b : Book} {limit : Int} {n : Nat}
def dueB (b : Book) (fd : List RSt) : Bool := !decide ((fd.filter fun s => decide (((rnsM b s).length : Int) = 2)) = [])
theorem due_iff {fd : List RSt} : dueB b fd = true ↔ ∃ s ∈ fd, (rnsM b s).length = 2 := by
  unfold dueB
  rw [Bool.not_eq_true', decide_eq_false_iff_not, List.filter_eq_nil_iff]
  simp only [decide_eq_true_eq, Classical.not_forall, Classical.not_not]
  constructor
  · rintro ⟨s, hs, e⟩
    exact ⟨s, hs, by omega⟩
  · rintro ⟨s, hs, e⟩
    exact ⟨s, hs, by omega⟩
theorem two_right (hb : BookOk b) (hl : 1 ≤ limit) (h : Term b firstS n) (hn : (n : Int) ≤ limit) (hm : limit ≤ 1000) : ∃ y, twoX b limit = .inr y ∧ RightP b (dueB b (Us b firstS n)) (ToD.dat y) ∧ (∀ z, y.2 = .inl z → z.length ≤ 1000) ∧ ∀ z, y.2 = .inr z → z.length ≤ 1000 := by
  rcases rch_term hl h with ⟨z, _⟩ | ⟨_, e⟩
  · omega
  have lr : (Ur b firstS n).length = n := by rw [Ur_len]; exact h.e
  refine ⟨_, two_inr e rfl, ?_⟩
  unfold twoR
  rcases two_find (b := b) (rows := Ur b firstS n) (k := fun _ => (Str.ofString "never", .inr ((Ur b firstS n).map fun row => row.a))) (enumI (Ur b firstS n)) with ⟨x, hx, h1, h2⟩ | ⟨h1, h2⟩
  · rw [h2]
    unfold enumI at hx
    obtain ⟨⟨y, k⟩, hy, rfl⟩ := List.mem_map.mp hx
    have g2 := List.mk_mem_zipIdx_iff_getElem?.mp hy
    have g3 := (List.getElem?_eq_some_iff.mp g2).1
    have hkb : (0 : Int) ≤ (k : Int) ∧ (k : Int) < ((Ur b firstS n).length : Int) := by omega
    have hix : ix (Ur b firstS n) (k : Int) = y := by
      have h4 := ix_at (xs := Ur b firstS n) (i := (k : Int)) hkb.1 hkb.2
      rw [Int.toNat_natCast, g2] at h4
      exact (Option.some.inj h4).symm
    have hd : dueB b (Us b firstS n) = true := due_iff.mpr ⟨y.a, by rw [← Ur_map]; exact List.mem_map_of_mem (List.mem_of_getElem? g2), h1⟩
    have hsl := stepsM_len hkb
    rw [hd]
    refine ⟨⟨wTwo, (stepsM (Ur b firstS n) (k : Int)).map Dat.int, rfl, fun _ => ⟨rfl, by rw [List.length_map]; omega, ?_⟩, fun z => by cases z⟩, fun z hz => ?_, fun z hz => by cases hz⟩
    · obtain ⟨l, e1, e2⟩ := stepsM_path (Ur_ok n) hkb
      refine ⟨l, e1, ?_⟩
      rw [e2, hix]
      exact h1
    · injection hz with hz
      rw [← hz]
      dsimp only
      omega
  · rw [h2]
    have hall : ∀ s ∈ Us b firstS n, ¬ (rnsM b s).length = 2 := fun s hs => by
      rw [← Ur_map] at hs
      obtain ⟨r, hr, rfl⟩ := List.mem_map.mp hs
      rw [← enum_snd (xs := Ur b firstS n)] at hr
      obtain ⟨x, hx, rfl⟩ := List.mem_map.mp hr
      exact h1 x hx
    have hd : dueB b (Us b firstS n) = false := by
      cases q : dueB b (Us b firstS n) with
      | false => rfl
      | true =>
        obtain ⟨s, hs, z⟩ := due_iff.mp q
        exact absurd z (hall s hs)
    have em : ((Ur b firstS n).map fun row => row.a) = Us b firstS n := Ur_map n
    rw [hd, em]
    refine ⟨⟨wNever, (Us b firstS n).map ToD.dat, rfl, fun z => (by cases z), fun _ => ⟨rfl, by rw [List.length_map, h.e]; omega, ⟨_, rfl, Us_ok hb (first_ok hb) n, Us_nd n, Us_first, fun s hs r hr hc => h.closed hs hr hc⟩, fun y hy => ?_⟩⟩, fun z hz => (by cases hz), fun z hz => ?_⟩
    · obtain ⟨s, hs, rfl⟩ := List.mem_map.mp hy
      rw [stOf_dat]
      exact hall s hs
    · injection hz with hz
      rw [← hz, h.e]
      omega
end
def wideR (more : Bool) : List Rule :=
  if more = true then (((rng 0 8).map (fun k => (⟨0, k, none, k + 1, none⟩ : Rule)) ++ [⟨0, 8, none, 9, some 0⟩]) ++ (rng 0 19).map (fun k => (⟨1, k, none, k + 1, none⟩ : Rule))) ++ [⟨1, 19, some 0, 20, none⟩]
  else ((rng 0 8).map (fun k => (⟨0, k, none, k + 1, none⟩ : Rule)) ++ [⟨0, 8, none, 9, some 0⟩]) ++ (rng 0 19).map (fun k => (⟨1, k, none, k + 1, none⟩ : Rule))
@[irreducible] def wideB (more : Bool) : Book := ⟨⟨[true] ++ List.replicate 9 false⟩, ⟨List.replicate 21 false⟩, 1, ⟨wideR more⟩⟩
@[irreducible] def lateB (old new : List Bool) : Book := ⟨⟨old⟩, ⟨new⟩, 0, ⟨(rng 0 13).map (fun k => (⟨0, k, none, k + 1, none⟩ : Rule)) ++ (rng 0 13).map (fun k => (⟨1, k, none, k + 1, none⟩ : Rule))⟩⟩
def farB : Book := lateB (List.replicate 14 true) (List.replicate 13 false ++ [true])
instance {P : Int → Prop} [∀ x, Decidable (P x)] {o : Option Int} : Decidable (∀ x, o = some x → P x) := match o with
  | none => .isTrue fun x h => by cases h
  | some y => if h : P y then .isTrue fun x e => by cases e; exact h else .isFalse fun z => h (z y rfl)
instance {m : Int × Int} {l : Int} {r : Rule} : Decidable (RuleOk m l r) :=
  if h : (0 ≤ r.a ∧ r.a < 2) ∧ (0 ≤ r.b ∧ r.b < pixI m r.a) ∧ (∀ x, r.c = some x → 0 ≤ x ∧ x < l) ∧ (0 ≤ r.d ∧ r.d < pixI m r.a) ∧ (∀ x, r.e = some x → 0 ≤ x ∧ x < l) then .isTrue ⟨h.1, h.2.1, h.2.2.1, h.2.2.2.1, h.2.2.2.2⟩
  else .isFalse fun q => h ⟨q.house, q.at_, q.heard, q.to, q.said⟩
instance {b : Book} : Decidable (BookOk b) :=
  if h : (1 ≤ b.a.l.length ∧ b.a.l.length ≤ 50) ∧ (1 ≤ b.b.l.length ∧ b.b.l.length ≤ 50) ∧ (0 ≤ b.c ∧ b.c ≤ 25) ∧ b.d.l.length ≤ 100 ∧ ∀ r ∈ b.d.l, RuleOk ((b.a.l.length : Int), (b.b.l.length : Int)) b.c r then .isTrue ⟨h.1, h.2.1, h.2.2.1, h.2.2.2.1, h.2.2.2.2⟩
  else .isFalse fun q => h ⟨q.old, q.new, q.letters, q.many, q.rules⟩
def runS (b : Book) : Nat → Nat → List RSt → List RSt
  | 0, _, fd => fd
  | k + 1, n, fd => if n < fd.length then runS b k (n + 1) (nxS b fd n) else fd
section
variable {K : Fg} {G G1 G2 : List Sl} {ta tb : TE}
end
theorem RightP.of {b : Book} {limit : Int} {y : TwR} {n : Nat} {fd : List RSt} (hfd : fd = Us b firstS n) (h : RightP b (dueB b (Us b firstS n)) (ToD.dat y)) : RightP b (dueB b fd) (ToD.dat y) := by rw [hfd]; exact h
structure MoreOk (b : Book) (fd : List RSt) (n : Nat) : Prop where
  ef : fd = Us b firstS n
  or_ : Term b firstS n ∨ 60 < (fd.length : Int)
  le : (fd.length : Int) ≤ 160
theorem exSs_len {here : RSt} : ∀ (rs : List Rule) (fd : List RSt), (rs.foldl (exS here) fd).length ≤ fd.length + rs.length
  | [], fd => Nat.le_refl _
  | r :: rs, fd => by
    have h1 := exSs_len (here := here) rs (exS here fd r)
    have h2 : (exS here fd r).length ≤ fd.length + 1 := by
      unfold exS
      split
      · split
        · omega
        · rw [List.length_append]; exact Nat.le_refl _
      · omega
    rw [List.foldl_cons, List.length_cons]
    omega
theorem Us_len1 {b : Book} {f : RSt} {n : Nat} : (Us b f (n + 1)).length ≤ (Us b f n).length + b.d.l.length := by
  show (if n < (Us b f n).length then nxS b (Us b f n) n else Us b f n).length ≤ _
  split
  · exact exSs_len _ _
  · omega
theorem allF_bd {b : Book} {f : RSt} {most : Int} (hb : b.d.l.length ≤ 100) : ∀ (k n : Nat), ((Us b f n).length : Int) ≤ most + 100 → ((allF b f most k n).length : Int) ≤ most + 100
  | 0, n, h => h
  | k + 1, n, h => by
    unfold allF
    have := Us_len1 (b := b) (f := f) (n := n)
    by_cases c : n < (Us b f n).length ∧ ((Us b f n).length : Int) ≤ most
    · rw [if_pos c]
      exact allF_bd hb k (n + 1) (by omega)
    · rw [if_neg c]; exact h
theorem all_bd {b : Book} (hb : BookOk b) : ∃ n, MoreOk b (allM b 60) n := by
  obtain ⟨m, e, h⟩ := all_val (b := b) (most := 60) (by decide)
  refine ⟨m, e, ?_, ?_⟩
  · rcases h with h | h
    · exact .inl ⟨h⟩
    · exact .inr (by rw [e]; exact h)
  · unfold allM
    exact allF_bd hb.many _ 0 (by show ((1 : Nat) : Int) ≤ 60 + 100; decide)
section
variable {b : Book} {fd : List RSt} {n : Nat} {limit : Int}
end
end GL
namespace GL
open PySem PySem.Spec PyProof.Rows L2
structure FnOkG (P : Program) (w : World) (K : Fg) (mg : Str → Option Value) (base : Heap) (k : Nat) (f : Addr) (fd : FuncData) (ps : List Str) (sp : Sp) : Prop where
  len : ∀ vs H Q E, sp vs H Q E → vs.length = ps.length
  run : ∀ (A : Around) (outer : List Env) (s : Shared) (H : Hp) (args : Args) (us : List Value) (vs : List V) (Q : VK) (E : XK), A.guards = some [] → Room k A → Env0 P w K mg base A outer s H → BindsTo s fd args (ps.zip us) → Vals vs us → sp vs H Q E →
    codeAny (model P w) A (.call (.ref f) args) (CR CX0 outer P w H s Q E) s
section
variable {P : Program} {w : World} {K : Fg} {mg : Str → Option Value} {base : Heap}
theorem FnOkG.mono {j k : Nat} {f : Addr} {fd : FuncData} {ps : List Str} {sp : Sp} (F : FnOkG P w K mg base j f fd ps sp) (h : j ≤ k) : FnOkG P w K mg base k f fd ps sp := ⟨F.len, fun A outer s H args us vs Q E hg hr => F.run A outer s H args us vs Q E hg (hr.mono h)⟩
theorem Fun.okG {x qual : Str} {st : Stmt} {f : Addr} {fd : FuncData} {N ps : List Str} {k : Nat} {sp : Sp} (F : Fun K x qual st f fd) (S : FnScope N ps (defScope st)) (len : ∀ vs H Q E, sp vs H Q E → vs.length = ps.length)
    (hbody : ∀ (cdv : Value) (A : Around) (outer : List Env) (s : Shared) (H : Hp) (vs : List V) (Q : VK) (E : XK), A.guards = some [] → Room k (A.deeper (envOfC qual (defScope st) s.heap.objs.size f cdv)) → sp vs H Q E →
      ∃ t, PSs (cxOf CX0 P w K mg base N qual (defScope st) f cdv A outer s H E).nox (defBody st) t ∧ t { nx := fun _ H' => Q .non H', rt := Q } (start N vs) H) : FnOkG P w K mg base (k + 1) f fd ps sp := by
  obtain ⟨oc, od, kV, doc, pm, an, cdv, ct, osl, rfl, lk, hcd⟩ := F.ex
  refine ⟨len, fun A outer s H args us vs Q E hg hr e0 hb r hsp => ?_⟩
  have hl := len _ _ _ _ hsp
  have kin : K.In s.heap := e0.mod.kin.keeps fun b o e => (e0.bs b o e).1
  have kinds : ∀ y ∈ ps.zip us, (defScope st).names.lookup y.1 = some .local ∨ ((defScope st).names.lookup y.1 = some .cell ∧ ((cellsFrom (s.heap.objs.size + 1) (defScope st).names []).lookup y.1).isSome = true) := fun ⟨n, v⟩ hy => (S.par n (List.of_mem_zip hy).1).elim .inl fun q => .inr ⟨q, PySem.W.cellsFrom_some _ _ _ (.inl q)⟩
  refine codeAny_call_function hr.depth (kin _ _ lk) rfl S.co S.gen rfl (PySem.W.codeRec_of kin hcd) (hb _ _ _ _ (wpAny_newFunctionEnv_cells S.kind kinds fun env he s1 x => ?_))
  subst he
  obtain ⟨t, ht, hq⟩ := hbody cdv A outer s H vs Q E hg (hr.deeper _) hsp
  refine ⟨(e0.mod.nolimit.keeps fun b o e => (e0.bs b o e).1).keeps x.toInCall.keep, codeAny_func (wpAny_mono (ht.nox.run [] s1 (start N vs) H _ (inv_start S hr.hd e0 hl r x) hq) (fun fl s' hs => ?_) fun e s' hs => hs)⟩
  cases fl with
  | ret u =>
    obtain ⟨v, σ', H', J, rv, q⟩ := hs
    exact ⟨v, H', J.os, J.bare, J.base, J.hok, rv, q⟩
  | next =>
    obtain ⟨σ', H', J, q⟩ := hs
    exact ⟨.non, H', J.os, J.bare, J.base, J.hok, rfl, q⟩
  | brk =>
    obtain ⟨_, _, _, q⟩ := hs
    exact q.elim
  | cont =>
    obtain ⟨_, _, _, q⟩ := hs
    exact q.elim
end
section
variable {X : Cx} {j k : Nat} {f : Addr} {fd : FuncData} {ps : List Str} {sp : Sp}
theorem run_fnG {pins : List (Addr × Obj)} {σ : L2.St} {H : Hp} {s : Shared} {Q : VK} {us : List Value} {vs : List V} (F : FnOkG X.prog X.w X.K X.mg X.base k f fd ps sp) (hg : X.A.guards = some []) (hr : Room k X.A) (hb : Binds X.K fd ps [])
    (I : Inv X pins σ H s) (r : Vals vs us) (h : sp vs H Q E0) : wpAny (model X.prog X.w) X.A (call (.ref f) us) (EP X pins σ Q) X.xe s := by
  have hl : (us ++ []).length = ps.length := by rw [List.append_nil, ← r.length]; exact F.len _ _ _ _ h
  have hb2 := hb s us I.kIn hl
  rw [List.append_nil] at hb2
  refine wpAny_call (codeAny_mono (F.run X.A X.stack s H ⟨us, []⟩ us vs Q E0 hg hr I.env0 hb2 r h) fun res s' hq => ?_)
  cases res with
  | error e => exact False.elim hq
  | ok fl =>
    cases fl with
    | ret u => exact I.after hq
    | next => exact False.elim hq
    | brk => exact False.elim hq
    | cont => exact False.elim hq
end
structure CalG (P : Program) (w : World) (K : Fg) (mg : Str → Option Value) (base : Heap) (k : Nat) (x : Str) (ps : List Str) (sp : Sp) : Prop where
  ex : ∃ (f : Addr) (fd : FuncData), mg x = some (.ref f) ∧ FnOkG P w K mg base k f fd ps sp ∧ PySem.W.keepIn K (.ref f) = true ∧ Binds K fd ps []
theorem pe_calG {X : Cx} {j k : Nat} {x : Str} {ps : List Str} {sp : Sp} {e : Expr} {es : List Expr} {t : TA} {p pos : Pos} (c : CalG X.prog X.w X.K X.mg X.base k x ps sp) (hu : X.A.guards = some []) (hr : Room j X.A) (hk : k ≤ j) (hg : Gl X x) (ha : PA X (e :: es) t)
    (hd : (x == ("__debug__" : Str)) = false := by decide) (hs : starEach (e :: es) X.env = (false, eval e X.env) :: starEach es X.env := by rfl) (hpl : (backTo pos (starEach es X.env)).any (·.1) = false := by rfl) :
    PE X (.Call (.Name x p) (e :: es) [] pos) (tCall sp [] E0 t) := by
  obtain ⟨f, fd, hm, F, kp, hb⟩ := c.ex
  refine ⟨fun pins s σ H Q I h => ?_⟩
  refine wpAny_Call_Name_kw (ld_glob I hg hm ?_ hd)
  exact PySem.W.callWith_K (h₀ := X.base) I.ok.mod.kin kp (thn (ha.run pos pins s σ H _ I h) fun us s1 ⟨vs, H1, I1, r, q⟩ => ⟨I1.kIn, run_fnG F hu (hr.mono hk) hb I1 r (by have q' : sp (vs ++ []) H1 Q E0 := q; rw [List.append_nil] at q'; exact q')⟩) hs hpl
section
variable {P : Program} {w : World} {K : Fg} {mg : Str → Option Value} {base : Heap} {α β : Type} [Sls α] [Py β]
theorem def_spFG {x : Str} {st : Stmt} {N ps : List Str} {k : Nat} {f : α → β} {pre : α → Prop} (D : Def K mg x st ps) (S : FnScope N ps (defScope st)) (hn : PyA.n α = ps.length)
    (h : ∀ (fa : Addr) (cdv : Value) (A : Around) (outer : List Env) (s : Shared) (H : Hp) (E : XK), A.guards = some [] → Room k (A.deeper (envOfC x (defScope st) s.heap.objs.size fa cdv)) →
      ∃ t, PSs (cxOf CX0 P w K mg base N x (defScope st) fa cdv A outer s H E).nox (defBody st) t ∧
        ∀ (a : α), pre a → ∀ (B S0 : Hp) (Q : VK), (∀ G' y, y = f a → RT K B S0 Q y G') → At K B S0 (t { nx := fun _ H' => Q .non H', rt := Q }) (Sls.sls a ++ List.replicate (N.length - PyA.n α) .no)) :
    CalG P w K mg base (k + 1) x ps (spF K f pre) := by
  obtain ⟨fa, fd, m, F, b⟩ := D.ex
  refine ⟨fa, fd, m, Fun.okG F S (fun vs H Q E ⟨S, a, _, r, _⟩ => (PyA.len r).trans hn) fun cdv A outer s H vs Q E hg hr ⟨S', a, e, r, hp, q⟩ => ?_, F.kp, b⟩
  obtain ⟨t, h1, h2⟩ := h fa cdv A outer s H E hg hr
  refine ⟨t, h1, h2 a hp H S' Q (fun G' y ey S1 σ1 H1 F1 v k1 r1 => ?_) S' _ H _ (start_kn e r)⟩
  subst ey
  exact q v S1 H1 ⟨k1.s0, k1.sub, k1.keep, k1.clean⟩ r1
theorem fn_lawG {st : Stmt} {fa : Addr} {fd : FuncData} {N : List Str} {k : Nat} (F : Fun K "law" "law" st fa fd) (S : FnScope N ["script"] (defScope st))
    (h : ∀ (cdv : Value) (A : Around) (outer : List Env) (s : Shared) (H : Hp) (E : XK), A.guards = some [] → Room k (A.deeper (envOfC "law" (defScope st) s.heap.objs.size fa cdv)) →
      ∃ t, PSs (cxOf CX0 P w K mg base N "law" (defScope st) fa cdv A outer s H E).nox (defBody st) t ∧
        ∀ (a : Scr), a.l.length ≤ 63 → ∀ (B S0 : Hp) (Q : VK), (∀ (G' : List Sl) (y : Bool), y = true → RT K B S0 Q y G') → At K B S0 (t { nx := fun _ H' => Q .non H', rt := Q }) (.im a :: List.replicate (N.length - 1) .no)) :
    FnOkG P w K mg base (k + 1) fa fd ["script"] (spLaw K) := by
  refine Fun.okG F S (fun vs H Q E ⟨a, ns, e, _⟩ => by rw [e]; rfl) fun cdv A outer s H vs Q E hg hr ⟨a, ns, e, hs, hl, q⟩ => ?_
  subst e
  obtain ⟨t, h1, h2⟩ := h cdv A outer s H E hg hr
  have kn := start_kn (K := K) (H := H) (S := H) (vs := [.ref a]) (a := ((⟨ns⟩, ()) : Scr × Unit)) (N := N) (Same.refl _) ⟨.ref a, [], rfl, ⟨a, rfl, hs⟩, rfl⟩
  refine ⟨t, h1, h2 ⟨ns⟩ hl H H Q (fun G' y ey S1 σ1 H1 F1 v k1 r1 => ?_) H _ H _ kn⟩
  rw [show v = .bl y from r1, ey]
  exact q H1
end
section
variable {P : Program} {w : World} {K : Fg} {mg mb : Str → Option Value} {k : Nat} {fa a : Addr} {fd : FuncData} {x : Str} {sp : Sp} {s₁ : Shared} {vs : List Value} {ns : List Int}
abbrev LawEnd (s₁ : Shared) (r : Result) (s' : Shared) : Prop := r = .ok (.ret (.bool true)) ∧ OldK s₁.heap s'.heap ∧ s'.os = s₁.os ∧ AllBare s'.gens
theorem law_end {H : Hp} (hO : Only H) (hok : HOk P w H s₁.heap) {r : Result} {s' : Shared} (h : CR CX0 [] P w H s₁ (fun v _ => v = .bl true) E0 r s') : LawEnd s₁ r s' := by
  cases r with
  | error e => exact False.elim h
  | ok fl =>
    cases fl with
    | next => exact False.elim h
    | brk => exact False.elim h
    | cont => exact False.elim h
    | ret u =>
      obtain ⟨v, H', os, bare, un, hok', r', q⟩ := h
      subst q
      obtain rfl : u = Value.bool true := r'
      refine ⟨rfl, OldK.of_keep fun b o e => ?_, os, bare⟩
      rcases hO b with z | ⟨ob, xs, z⟩
      · exact un.keep b o e z (List.not_mem_nil) (List.not_mem_nil)
      · obtain ⟨e1, _⟩ := hok b _ z
        obtain ⟨e2, _⟩ := hok' b _ (un.frzs b ob _ z)
        rw [e] at e1
        cases e1
        exact e2
theorem law_coreG (KX : K.In s₁.heap) (hns : s₁.heap.Ns mainGlobals mg) (hb : s₁.heap.Ns builtinsNs mb) (hbb : ∀ x : Str, x ≠ "__name__" → mb x = bootBuiltins x) (hlim : s₁.heap.NoLimit) (hg : s₁.gens = #[])
    (ha : s₁.heap.get? a = some { cls := .type "list", data := .seq vs.toArray }) (hr : Room k callerA)
    (F : ∀ base : Heap, K.In base → base.Ns mainGlobals mg → FnOkG P w K mg base k fa fd [x] sp) (hbind : ∀ (s : Shared) (u : Value), BindsTo s fd ⟨[u], []⟩ [(x, u)])
    {H : Hp} (hO : Only H) (hsp : sp [.ref a] H (fun v _ => v = .bl true) E0) (hok : HOk P w H s₁.heap) (hA : ∀ b, b ≠ a → H b = none) (hK : H a ≠ none → K.lookup a = none) :
    codeAny (model P w) callerA (.call (.ref fa) ⟨[.ref a], []⟩) (LawEnd s₁) s₁ := by
  have ns_ : ∀ {b : Addr} {m : Str → Option Value}, s₁.heap.Ns b m → (hidT s₁.heap H).Ns b m := fun {b m} ⟨o, es, ep, e, d, r⟩ => ⟨o, es, ep, hidT_get e (hA _ fun eb => by
    rw [eb, ha] at e
    cases e
    have d' : Data.seq vs.toArray _ = Data.dict es ep := d
    cases d'), d, r⟩
  have K_ : K.In (hidT s₁.heap H) := fun b o e => hidT_get (KX b o e) (by
    by_cases eb : b = a
    · cases q : H b with
      | none => rfl
      | some u => rw [eb, hK (by rw [← eb, q]; simp)] at e; cases e
    · exact hA b eb)
  have M_ : Mod K mg (hidT s₁.heap H) := ⟨K_, ns_ hns, ⟨mb, ns_ hb, hbb⟩, hlim.elim fun mc h => ⟨mc, ns_ h.1, h.2⟩⟩
  have e0 : Env0 P w K mg (hidT s₁.heap H) callerA [] s₁ H := ⟨rfl, M_, fun b o e => of_hidT e, Nat.le_of_eq (hidT_size _ _), trivial, fun b hb => absurd (show b ∈ ([] : List Addr) from hb) List.not_mem_nil, hok, .of_eq hg⟩
  exact codeAny_mono ((F _ K_ (ns_ hns)).run callerA [] s₁ H ⟨[.ref a], []⟩ [.ref a] [.ref a] _ _ rfl hr e0 (hbind s₁ (.ref a)) (.cons rfl .nil) hsp) fun r s' h => law_end hO hok h
theorem law_callG (KX : K.In s₁.heap) (hns : s₁.heap.Ns mainGlobals mg) (hb : s₁.heap.Ns builtinsNs mb) (hbb : ∀ x : Str, x ≠ "__name__" → mb x = bootBuiltins x) (hlim : s₁.heap.NoLimit) (hg : s₁.gens = #[])
    (ha : s₁.heap.get? a = some { cls := .type "list", data := .seq vs.toArray }) (hi : IntsAre vs ns) (hl : ns.length ≤ sizeLine) (hr : Room k callerA)
    (F : ∀ base : Heap, K.In base → base.Ns mainGlobals mg → FnOkG P w K mg base k fa fd [x] sp) (hbind : ∀ (s : Shared) (u : Value), BindsTo s fd ⟨[u], []⟩ [(x, u)])
    (hsp : ∀ H : Hp, Only H → SqL K H a (ns.map V.int) → sp [.ref a] H (fun v _ => v = .bl true) E0) : codeAny (model P w) callerA (.call (.ref fa) ⟨[.ref a], []⟩) (LawEnd s₁) s₁ := by
  have core := fun {H : Hp} => law_coreG (H := H) KX hns hb hbb hlim hg ha hr F hbind
  have rv := vals_ints hi
  cases hk : K.lookup a with
  | some o =>
    have e := KX a o hk
    rw [ha] at e
    cases e
    have hO : Only (fun _ => none) := fun b => .inl rfl
    exact core hO (hsp _ hO (.inr ⟨_, vs.toArray, _, hk, rfl, rfl, rfl, by rw [List.size_toArray, hi.length]; exact hl, by simpa using rv⟩)) (fun b u z => by have z' : (none : Option HO) = some u := z; cases z') (fun _ _ => rfl) fun z => absurd rfl z
  | none =>
    have hO : Only (fun b => if b = a then some (.frz { cls := .type "list", data := .seq vs.toArray } (.lst (ns.map V.int))) else none) := fun b => by
      by_cases e : b = a
      · exact .inr ⟨_, _, if_pos e⟩
      · exact .inl (if_neg e)
    refine core hO (hsp _ hO (.inl (.inr ⟨_, if_pos rfl⟩))) (fun b u z => ?_) (fun b e => if_neg e) fun _ => hk
    by_cases e : b = a
    · have z' := (if_pos e).symm.trans z
      cases z'
      subst e
      exact ⟨ha, by rw [List.length_map]; exact hl, vs, _, rv, ha⟩
    · have z' := (if_neg e).symm.trans z
      cases z'
end
theorem walk_ofG {l : PySem.W.OpenLaw} {n k : Nat} {q : Program} {loose : List Str} {XP : (Str → Option Value) → Heap → Prop} {YP : World → Heap → Prop} {d : DefRec} {K : Params → Fg} {sp : World → Sp} {x : Str}
    (hn : l.most = some n) (hn2 : n ≤ sizeLine) (hdf : d.params.defaults = []) (hr : Room k callerA) (hY : ∀ (w : World) (h : Heap), YP w h → (K w.params).In h)
    (F : ∀ (w : World) (mg : Str → Option Value) (fa : Addr) (h : Heap), (K w.params).In h → h.Ns mainGlobals mg → mg d.name = some (.ref fa) →
      ∃ fd : FuncData, (∀ (s : Shared) (u : Value), BindsTo s fd ⟨[u], []⟩ [(x, u)]) ∧ ∀ base : Heap, (K w.params).In base → base.Ns mainGlobals mg → FnOkG l.prog w (K w.params) mg base k fa fd [x] (sp w))
    (hsp : ∀ (w : World) (H : Hp) (a : Addr) (ns : List Int), ns.length ≤ n → Only H → SqL (K w.params) H a (ns.map V.int) → sp w [.ref a] H (fun v _ => v = .bl true) E0) :
    PySem.W.WalkO q loose XP YP l.row.toRowW d [] (fun f vs => PySem.call f vs) := by
  refine Att.attach_call hn hdf fun w s₀ s₁ mg mb fa o pm cd doc a vs ns G Y ho hd hcd hmg hobj hints hlen hg => ?_
  obtain ⟨fd, hb, hF⟩ := F w mg fa _ (hY w _ Y) G.T.g hmg
  exact law_callG (hY w _ Y) G.T.g G.T.b G.T.builtins G.T.nolimit hg hobj hints (Nat.le_trans hlen hn2) hr hF hb fun H hO hS => hsp w H a ns hlen hO hS
end GL
namespace L2
open PySem PySem.Spec PyProof.Rows
def rEqTN (K : PySem.W.Frag) : R2 := fun x y H Q => ∃ p q xs, x = .ref p ∧ y = .ref q ∧ SqT K H p xs ∧ SqT K H q [] ∧ Q (.bl xs.isEmpty) H
def rInK (K : PySem.W.Frag) (w : World) (b : Bool) : R2 := fun x y H Q => ∃ d es n z r, KDict K w d es n ∧ x = .str z ∧ y = .ref d ∧ PySem.W.nsIn K d z = some r ∧ Q (.bl (b != r.isSome)) H
end L2
namespace GL
open PySem PySem.Spec PyProof.Rows L2
namespace Dat
def toS : Dat → Str
  | .str s => s
  | _ => Str.empty
end Dat
structure TD where
  l : List (Str × Int)
def TD.kv (d : TD) : List (Key × V) := d.l.map fun kv => (Sum.inr kv.1, V.int kv.2)
instance : Py TD := ⟨fun K S v d => ∃ p, v = .ref p ∧ S p = some (.dK d.kv), fun e ⟨p, h1, h2⟩ => ⟨p, h1, e _ _ h2⟩⟩
def TD.get? (d : TD) (s : Str) : Option Int := (d.l.find? fun kv => decide (kv.1 = s)).map (·.2)
theorem TD.val (s : Str) : ∀ l : List (Str × Int), valV (l.map fun kv => ((Sum.inr kv.1 : Key), V.int kv.2)) (Sum.inr s) = ((l.find? fun kv => decide (kv.1 = s)).map (·.2)).map V.int
  | [] => rfl
  | kv :: l => by
    rw [List.map_cons, List.find?_cons]
    by_cases e : kv.1 = s
    · rw [decide_eq_true e, valV_pos (by show (Sum.inr kv.1 : Key) = Sum.inr s; rw [e])]
      rfl
    · rw [decide_eq_false e, valV_neg (by intro q; exact e (Sum.inr.inj q))]
      exact TD.val s l
section
variable {K : Fg} {B S0 S1 S S' D : Hp} {σ : L2.St} {H H' : Hp} {F : Nat → List Addr} {G G' G1 G2 G3 : List Sl} {ta tb tc te : TE} {i j : Nat} {t u w : TS} {E : Ends}
def partsK : List (Str × List Str) := [("set", ["sheet", "number"]), ("add", ["sheet", "sheet"]), ("jump", ["sheet", "row"]), ("say", ["sheet"]), ("take", ["sheet"]), ("end", [])]
def partsM (s : Str) : Option (List Str) := (partsK.find? fun kv => decide (kv.1 = s)).map (·.2)
def KParts (K : Fg) (w : World) (mg : Str → Option Value) (x : Str) : Prop := ∃ d es n, mg x = some (.ref d) ∧ KDict K w d es n ∧ (∀ s, partsM s = none → PySem.W.nsIn K d s = some none) ∧ ∀ s l, partsM s = some l → ∃ u, PySem.W.nsIn K d s = some (some (.ref u)) ∧ KTup K u (l.map V.str)
variable {w : World} {mg : Str → Option Value} {x : Str}
def rAddS : R2 := fun x y H Q => ∃ i j, x = .str i ∧ y = .str j ∧ i.length + j.length ≤ sizeLine ∧ Q (.str (i ++ j)) H
def rStrI : List V → Hp → VK → Prop := fun xs H Q => ∃ i, xs = [.int i] ∧ i.natAbs.log2 < 1920 ∧ Q (.str (toString i)) H
def rUpS : V → List V → Hp → VK → Prop := fun x xs H Q => ∃ a, x = .str a ∧ xs = [] ∧ a.length ≤ 5592405 ∧ Q (.str (Txt.upper a)) H
end
end GL
namespace GL
open PySem PySem.Spec PyProof.Rows L2
section
variable {K : Fg} {G G1 : List Sl} {ta tb : TE} {w : World} {mg : Str → Option Value} {x : Str}
end
end GL
namespace L2
open PySem PySem.Spec PyProof.Rows
def rRepr (K : PySem.W.Frag) : List V → Hp → VK → Prop := fun xs H Q => ∃ v d, xs = [v] ∧ Dp K H v d ∧ d.canLay0 = true ∧ d.depth ≤ 60 ∧ d.showable = true ∧ d.shown.length ≤ sizeLine ∧ Q (.str d.shown) H
theorem call_repr {X : Cx} (hg : X.A.guards = some []) (hu : X.A.units + 64 < cLine) : CallR X (.builtin "repr") (rRepr X.K) := by
  intro pins s σ H xs us Q I r h
  obtain ⟨v, d, rfl, hd, hl, hk, hs, hz, q⟩ := h
  obtain ⟨u, rfl, ru⟩ := vals1 r
  obtain ⟨as, rd⟩ := Dp.reads I d v u hd ru
  have hD := PyData.hasDict_of_canLay d hl
  cases rd with
  | none => exact PySem.P.repr_of_none ⟨.str _, H, I.tok _, ⟨_, rfl⟩, q⟩
  | bool b => exact PySem.P.repr_of_bool ⟨.str _, H, I.tok _, ⟨_, rfl⟩, q⟩
  | int i t => exact PySem.P.repr_of_int (of_decide_eq_true hs) ⟨.str _, H, I.tok _, ⟨_, rfl⟩, q⟩
  | str x t => exact PySem.P.repr_of_str ⟨.str _, H, I.tok _, ⟨_, rfl⟩, q⟩ hz
  | list h1 h2 h3 h4 => exact repr_of_reads' (Reads.list h1 h2 h3 h4) hs (PyData.noDict_hsm hD) hg (by omega) (fun _ _ e => e) (fun h' u tk hk => ⟨.str _, H, I.kept hk, ⟨_, rfl⟩, q⟩) hz
  | tuple h1 h2 h3 h4 => exact repr_of_reads' (Reads.tuple h1 h2 h3 h4) hs (PyData.noDict_hsm hD) hg (by omega) (fun _ _ e => e) (fun h' u tk hk => ⟨.str _, H, I.kept hk, ⟨_, rfl⟩, q⟩) hz
  | dict h1 h2 h3 h4 h5 => simp [PyData.hasDict] at hD
end L2
namespace GL
open PySem PySem.Spec PyProof.Rows L2
structure ShOk (d : Dat) : Prop where
  lay : d.pd.canLay0 = true
  dep : d.pd.depth ≤ 60
  sh : d.pd.showable = true
  len : d.pd.shown.length ≤ sizeLine
theorem ev_repr {K : Fg} {G G1 : List Sl} {ta : TE} {d : Dat} (h : EvX K ta G d G1) (hd : ShOk d) : EvX K (tCB (rRepr K) (tCons ta tNil)) G d.pd.shown G1 := fun B S0 S σ H F k Q q =>
  h B S0 S σ H F k _ fun v S1 H1 e1 k1 r1 => ⟨v, d.pd, rfl, (DRep.mono k1.sub r1).dp, hd.lay, hd.dep, hd.sh, hd.len, q _ S1 H1 e1 k1 rfl⟩
structure DSz (k w : Nat) (d : Dat) : Prop where
  lay : d.pd.canLay0 = true
  dep : d.pd.depth ≤ k
  sho : d.pd.showable = true
  ish : d.pd.intsShort 13 = true
  wei : d.pd.weight ≤ w
theorem DSz.up {k w k' w' : Nat} {d : Dat} (h : DSz k w d) (hk : k ≤ k') (hw : w ≤ w') : DSz k' w' d := ⟨h.lay, Nat.le_trans h.dep hk, h.sho, h.ish, Nat.le_trans h.wei hw⟩
theorem DSz.ok {k w : Nat} {d : Dat} (h : DSz k w d) (hk : k ≤ 60) (hw : w ≤ 1000000) : ShOk d := ⟨h.lay, Nat.le_trans h.dep hk, h.sho, by
  have h1 := PyData.shown_le 13 (by decide) d.pd (PyData.leavesShort_of_canLay0 13 d.pd h.lay h.ish)
  have h2 := h.wei
  have h3 : (13 + 2) * d.pd.weight ≤ 15 * 1000000 := Nat.mul_le_mul (by decide) (by omega)
  exact Nat.le_trans h1 (by show _ ≤ 16777216; omega)⟩
theorem dsz_non {k w : Nat} : DSz k w .non := ⟨rfl, Nat.zero_le _, rfl, rfl, Nat.zero_le _⟩
theorem dsz_bl {k w : Nat} {b : Bool} : DSz k w (.bl b) := ⟨rfl, Nat.zero_le _, rfl, rfl, Nat.zero_le _⟩
theorem log_lt {n : Nat} (h : n < 10 ^ 12) : n.log2 < 40 := by
  by_cases e : n = 0
  · subst e; decide
  · rw [Nat.log2_lt e]
    exact Nat.lt_trans h (by decide)
theorem dsz_int {k w : Nat} {i : Int} (h : i.natAbs < 10 ^ 12) (hw : 40 ≤ w) : DSz k w (.int i) := ⟨rfl, Nat.zero_le _, by
  have := log_lt h
  show decide (i.natAbs.log2 < 1920) = true
  exact decide_eq_true (by omega), by
  have := PyData.intsShortAll_ints [i] (fun n hn => by rw [List.mem_singleton.mp hn]; exact h)
  simpa [PyData.intsShortAll, Dat.pd] using this, by
  have := log_lt h
  show (if i == 0 then 0 else i.natAbs.log2 + 1) ≤ w
  split <;> omega⟩
theorem dsz_str {k w : Nat} {s : Str} (h : (PyData.str s).canLay0 = true) (hw : s.cps.size ≤ w) : DSz k w (.str s) := ⟨h, Nat.zero_le _, rfl, rfl, hw⟩
theorem dsz_all {k w : Nat} : ∀ {l : List Dat}, (∀ x ∈ l, DSz k w x) → PyData.canLayAll0 (pdL l) = true ∧ PyData.depthAll (pdL l) ≤ k ∧ PyData.showableAll (pdL l) = true ∧ PyData.intsShortAll 13 (pdL l) = true ∧ PyData.weightAll (pdL l) ≤ l.length * (w + 1)
  | [], _ => ⟨rfl, Nat.zero_le _, rfl, rfl, Nat.zero_le _⟩
  | x :: l, h => by
    obtain ⟨a, b, c, d, e⟩ := dsz_all fun y hy => h y (List.mem_cons_of_mem _ hy)
    obtain ⟨a', b', c', d', e'⟩ := h x List.mem_cons_self
    refine ⟨by rw [pdL, PyData.canLayAll0, a, a']; rfl, ?_, by rw [pdL, PyData.showableAll, c, c']; rfl, by rw [pdL, PyData.intsShortAll, d, d']; rfl, ?_⟩
    · rw [pdL]
      simp only [PyData.depthAll]
      omega
    · rw [pdL, PyData.weightAll, List.length_cons, Nat.succ_mul]
      omega
theorem dsz_tup {k w w' : Nat} {l : List Dat} (h : ∀ x ∈ l, DSz k w x) (hw : l.length * (w + 1) ≤ w') : DSz (k + 1) w' (.tup l) := by
  obtain ⟨a, b, c, d, e⟩ := dsz_all h
  exact ⟨by rw [Dat.pd, PyData.canLay0]; exact a, by rw [Dat.pd, PyData.depth]; exact Nat.succ_le_succ b, by rw [Dat.pd, PyData.showable]; exact c, by rw [Dat.pd, PyData.intsShort]; exact d, by rw [Dat.pd, PyData.weight]; exact Nat.le_trans e hw⟩
theorem dsz_lst {k w w' : Nat} {l : List Dat} (h : ∀ x ∈ l, DSz k w x) (hw : l.length * (w + 1) ≤ w') : DSz (k + 1) w' (.lst l) := by
  obtain ⟨a, b, c, d, e⟩ := dsz_all h
  exact ⟨by rw [Dat.pd, PyData.canLay0]; exact a, by rw [Dat.pd, PyData.depth]; exact Nat.succ_le_succ b, by rw [Dat.pd, PyData.showable]; exact c, by rw [Dat.pd, PyData.intsShort]; exact d, by rw [Dat.pd, PyData.weight]; exact Nat.le_trans e hw⟩
end GL
namespace GL
open PySem PySem.Spec PyProof.Rows L2
section
variable {n : Int} {d x : Dat} {b : Book} {f : RSt}
theorem btw_ib {n : Int} {x : Dat} : btwD x 0 (n - 1) = true ↔ x.isInt = true ∧ 0 ≤ x.toI ∧ x.toI < n := by
  unfold btwD
  rw [Bool.and_eq_true, Bool.and_eq_true, decide_eq_true_iff, decide_eq_true_iff]
  constructor
  · rintro ⟨a, b, c⟩; exact ⟨a, b, by omega⟩
  · rintro ⟨a, b, c⟩; exact ⟨a, b, by omega⟩
theorem all_id {α : Type} {l : List α} {p : α → Bool} : (l.map p).all id = true ↔ ∀ x ∈ l, p x = true := by
  rw [List.all_eq_true]
  constructor
  · intro h x hx; exact h _ (List.mem_map_of_mem hx)
  · intro h y hy
    obtain ⟨x, hx, rfl⟩ := List.mem_map.mp hy
    exact h x hx
theorem al_yes (h : (!d.isT || !(d.items.map fun x => btwD x 0 (n - 1)).all id) = false) : d.isT = true ∧ ∀ x ∈ d.items, btwD x 0 (n - 1) = true := by
  obtain ⟨h1, h2⟩ := Bool.or_eq_false_iff.mp h
  exact ⟨by simpa using h1, all_id.mp (by simpa using h2)⟩
theorem al_no (h : (!d.isT || !(d.items.map fun x => btwD x 0 (n - 1)).all id) = true) : false = ltD n d := by
  unfold ltD
  refine (dec_f fun z => ?_).symm
  have h1 := z.tup
  obtain ⟨l, rfl, hl⟩ := z
  rw [h1] at h
  have h2 : ((l.map Dat.int).map fun x => btwD x 0 (n - 1)).all id = true := all_id.mpr fun x hx => by
    obtain ⟨k, hk, rfl⟩ := List.mem_map.mp hx
    exact btw_ib.mpr ⟨rfl, (hl.bd k hk).1, (hl.bd k hk).2⟩
  have h3 : (Dat.tup (l.map Dat.int)).items = l.map Dat.int := rfl
  rw [h3, h2] at h
  cases h
theorem pw_of {xs : List Int} (h : ∀ k : Nat, k + 1 < xs.length → xs.getD k 0 < xs.getD (k + 1) 0) : xs.Pairwise (· < ·) := by
  rw [List.pairwise_iff_getElem]
  intro i j hi hj hij
  have key : ∀ d : Nat, i + d + 1 < xs.length → xs.getD i 0 < xs.getD (i + d + 1) 0 := by
    intro d
    induction d with
    | zero => intro hd; have := h i hd; rw [Nat.add_zero]; omega
    | succ d ih => intro hd; have := ih (by omega); have h2 := h (i + d + 1) hd; rw [show i + (d + 1) + 1 = i + d + 1 + 1 by omega]; omega
  have k := key (j - i - 1) (by omega)
  rw [show i + (j - i - 1) + 1 = j by omega] at k
  rw [List.getD_eq_getElem?_getD, List.getD_eq_getElem?_getD, List.getElem?_eq_getElem hi, List.getElem?_eq_getElem hj] at k
  exact k
theorem pw_at {xs : List Int} (h : xs.Pairwise (· < ·)) {k : Nat} (hk : k + 1 < xs.length) : xs.getD k 0 < xs.getD (k + 1) 0 := by
  rw [List.getD_eq_getElem?_getD, List.getD_eq_getElem?_getD, List.getElem?_eq_getElem (by omega), List.getElem?_eq_getElem hk]
  exact List.pairwise_iff_getElem.mp h k (k + 1) (by omega) hk (by omega)
theorem ix_int {l : List Int} {k : Nat} (h : k < l.length) : (ix (l.map Dat.int) (k : Int)).toI = l.getD k 0 := by
  unfold ix
  rw [List.getD_eq_getElem?_getD, List.getD_eq_getElem?_getD, Int.toNat_natCast, List.getElem?_map, List.getElem?_eq_getElem h]
  rfl
theorem al_end (h : (!d.isT || !(d.items.map fun x => btwD x 0 (n - 1)).all id) = false) : ((rng 0 ((d.items.length : Int) - 1)).map fun k => decide ((ix d.items k).toI < (ix d.items (k + 1)).toI)).all id = ltD n d := by
  obtain ⟨h1, h2⟩ := al_yes h
  have e : d.items = (d.items.map Dat.toI).map Dat.int := by
    rw [List.map_map]
    conv => lhs; rw [← List.map_id d.items]
    exact List.map_congr_left fun x hx => isInt_eq (btw_ib.mp (h2 x hx)).1
  have hd := tup_eq h1
  generalize hl : d.items.map Dat.toI = l at e
  have hb : ∀ k ∈ l, 0 ≤ k ∧ k < n := fun k hk => by
    rw [← hl] at hk
    obtain ⟨x, hx, rfl⟩ := List.mem_map.mp hk
    exact (btw_ib.mp (h2 x hx)).2
  rw [hd]
  show (((rng 0 ((d.items.length : Int) - 1)).map fun k => decide ((ix d.items k).toI < (ix d.items (k + 1)).toI)).all id) = _
  rw [e, List.length_map]
  unfold ltD
  by_cases hp : l.Pairwise (· < ·)
  · rw [dec_t ⟨l, rfl, hp, hb⟩, all_id]
    intro k hk
    have := mem_rng.mp hk
    obtain ⟨m, rfl⟩ := Int.eq_ofNat_of_zero_le this.1
    have h3 := pw_at hp (k := m) (by omega)
    rw [ix_int (by omega), show ((m : Int) + 1) = ((m + 1 : Nat) : Int) from rfl, ix_int (by omega)]
    exact decide_eq_true h3
  · rw [dec_f (fun ⟨l', e', h'⟩ => hp (by
      injection e' with e'
      rw [int_inj e']
      exact h'.so))]
    rw [Bool.eq_false_iff]
    intro q
    rw [all_id] at q
    refine hp (pw_of fun k hk => ?_)
    have h3 := of_decide_eq_true (q (k : Int) (mem_rng.mpr ⟨by omega, by omega⟩))
    rw [ix_int (by omega), show ((k : Int) + 1) = ((k + 1 : Nat) : Int) from rfl, ix_int (by omega)] at h3
    exact h3
theorem ix_memD {l : List Dat} {k : Int} (h0 : 0 ≤ k) (h : k < l.length) : ix l k ∈ l := ix_mem h0 h
theorem st_no1 (h4 : d.isT = true ∧ d.items.length = 4) (h : (!btwD (ix d.items 0) 0 ((b.a.l.length : Int) - 1) || !btwD (ix d.items 1) 0 ((b.b.l.length : Int) - 1)) = true) : false = stD b d := by
  unfold stD
  refine (dec_f fun z => ?_).symm
  obtain ⟨⟨z0, z1⟩, _⟩ := (st_iffD h4).mp z
  have z0 : (ix d.items 0).isInt = true ∧ 0 ≤ (ix d.items 0).toI ∧ (ix d.items 0).toI < (b.a.l.length : Int) := z0
  have z1 : (ix d.items 1).isInt = true ∧ 0 ≤ (ix d.items 1).toI ∧ (ix d.items 1).toI < (b.b.l.length : Int) := z1
  rw [btw_ib.mpr z0, btw_ib.mpr z1] at h
  cases h
theorem st_end1 (h4 : d.isT = true ∧ d.items.length = 4) (h : (!btwD (ix d.items 0) 0 ((b.a.l.length : Int) - 1) || !btwD (ix d.items 1) 0 ((b.b.l.length : Int) - 1)) = false) : (ltD b.c (ix d.items 2) && ltD b.c (ix d.items 3)) = stD b d := by
  obtain ⟨h1, h2⟩ := Bool.or_eq_false_iff.mp h
  refine st_ret2 h4 fun k hk => ?_
  have := mem_rng.mp hk
  rcases (show k = 0 ∨ k = 1 by omega) with e | e
  · subst e; exact (btw_ib (n := (b.a.l.length : Int))).mp (by simpa using h1)
  · subst e; exact (btw_ib (n := (b.b.l.length : Int))).mp (by simpa using h2)
end
end GL
namespace L2
open PySem PySem.Spec PyProof.Rows GL
def rLenN (K : PySem.W.Frag) : List V → Hp → VK → Prop := fun xs H Q => ∃ (p : Addr) (L : NL) (sh : List Bool), xs = [.ref p] ∧ H p = some (ndH p L) ∧ AllK K H sh L ∧ Q (.int ((L.length : Nat) : Int)) H
theorem call_lenN {X : Cx} : CallR X (.builtin "len") (rLenN X.K) := by
  intro pins s σ H xs us Q I r h
  obtain ⟨p, L, sh, rfl, hp, ak, q⟩ := h
  obtain ⟨u, rfl, rx⟩ := vals1 r
  obtain rfl : u = .ref p := rx
  obtain ⟨z, hd, ys, rel, dd⟩ := nd_of I hp ak
  have hl : L.length = ys.length := Paired.length rel
  have hz : ys.length ≤ 16777216 := by rw [← hl]; exact z
  refine call_len_dictH hd dd (by omega) ⟨.int ((L.length : Nat) : Int), H, I.tok _, ⟨_, by rw [hl]⟩, q⟩
end L2
namespace GL
open PySem PySem.Spec PyProof.Rows L2
section
variable {α β : Type} [NKey α] [Py β] [DecidableEq α] {K : Fg} {G G1 : List Sl} {i : Nat} {d : DN α β} {ta : TE}
theorem ev_lenNd (hi : G[i]? = some (.ow d)) : EvX K (tCB (rLenN K) (tCons (tVar i) tNil)) G ((d.l.length : Nat) : Int) G := fun B S0 S σ H F kn Q q => by
  obtain ⟨p, L, h1, h2, h3, h4⟩ := own_nd kn hi
  exact ⟨.ref p, h1, p, L, _, rfl, h3, h4.all kn.sub, q _ S H (Same.refl _) kn (by rw [← h4.len]; rfl)⟩
def isS (d : Dat) (s : Str) : Bool := match d with
  | .str t => t == s
  | _ => false
theorem isS_eqv {d : Dat} {s : Str} : PyData.eqv d.pd (.str s) = isS d s := by
  cases d <;> simp [Dat.pd, PyData.eqv, isS]
theorem ev_eqDS {x : Dat} {s : Str} (ha : EvX K ta G x G1) (h : SeqAt.shaped x.pd = true) (hs : SeqAt.shaped (.str s) = true) : EvX K (tOp (rEqD K) ta (tC (.str s))) G (isS x s) G1 := fun B S0 S σ H F kn Q q =>
  ha B S0 S σ H F kn _ fun v S1 H1 e1 k1 r1 => ⟨_, _, (DRep.mono k1.sub r1).dp, .str s, h, hs, q _ S1 H1 e1 k1 (by rw [isS_eqv]; rfl)⟩
theorem ev_neDS {x : Dat} {s : Str} (ha : EvX K ta G x G1) (h : SeqAt.shaped x.pd = true) (hs : SeqAt.shaped (.str s) = true) : EvX K (tOp (rNeD K) ta (tC (.str s))) G (!isS x s) G1 := fun B S0 S σ H F kn Q q =>
  ha B S0 S σ H F kn _ fun v S1 H1 e1 k1 r1 => ⟨_, _, (DRep.mono k1.sub r1).dp, .str s, h, hs, q _ S1 H1 e1 k1 (by rw [isS_eqv]; rfl)⟩
theorem DSz.shaped {k w : Nat} {d : Dat} (h : DSz k w d) (hk : k ≤ 64) : SeqAt.shaped d.pd = true := by
  unfold SeqAt.shaped
  rw [h.lay, decide_eq_true (Nat.le_trans h.dep hk)]
  rfl
end
def KnS (pre : List Dat) (kn : DN RSt Bool) : Prop := ∃ ss : List RSt, KnR ss kn ∧ ss.Nodup ∧ (∀ s, s ∈ ss ↔ s ∈ pre.map stOf) ∧ ss.length ≤ pre.length ∧ (ss.length = pre.length → (pre.map stOf).Nodup)
theorem KnS.start : KnS [] DN.emp := ⟨[], rfl, List.Pairwise.nil, fun s => Iff.rfl, Nat.le_refl _, fun _ => List.Pairwise.nil⟩
theorem put_keys {kn : DN RSt Bool} {s : RSt} {v : Bool} (h : (kn.get? s).isSome = true) : (kn.put s v).l.map Prod.fst = kn.l.map Prod.fst := by
  unfold DN.put
  dsimp only
  rw [if_pos h, List.map_map]
  refine List.map_congr_left fun e _ => ?_
  show (if e.1 = s then (e.1, v) else e).1 = e.1
  split <;> rfl
theorem KnS.put {pre : List Dat} {kn : DN RSt Bool} {x : Dat} (h : KnS pre kn) : KnS (pre ++ [x]) (kn.put (stOf x) true) := by
  obtain ⟨ss, h1, h2, h3, h4, h5⟩ := h
  by_cases hm : stOf x ∈ ss
  · have hs : (kn.get? (stOf x)).isSome = true := by rw [h1.has]; exact decide_eq_true hm
    refine ⟨ss, (put_keys hs).trans h1, h2, fun s => ?_, by rw [List.length_append]; omega, fun e => ?_⟩
    · rw [List.map_append, List.mem_append, h3 s]
      refine ⟨.inl, fun q => q.elim id fun q => ?_⟩
      rw [List.map_singleton, List.mem_singleton] at q
      rw [q]; exact (h3 _).mp hm
    · rw [List.length_append, List.length_singleton] at e; omega
  · refine ⟨ss ++ [stOf x], h1.put hm, List.nodup_append.mpr ⟨h2, by simp, fun a ha c hc => by rw [List.mem_singleton] at hc; rw [hc]; exact fun e => hm (e ▸ ha)⟩, fun s => ?_, by rw [List.length_append, List.length_append, List.length_singleton, List.length_singleton]; omega, fun e => ?_⟩
    · rw [List.map_append, List.mem_append, List.mem_append, h3 s]
      rfl
    · rw [List.length_append, List.length_append, List.length_singleton, List.length_singleton] at e
      rw [List.map_append]
      exact List.nodup_append.mpr ⟨h5 (by omega), by simp, fun a ha c hc => by rw [List.map_singleton, List.mem_singleton] at hc; rw [hc]; exact fun e => hm ((h3 _).mpr (e ▸ ha))⟩
section
variable {b : Book} {f : RSt} {d x : Dat} {pre post : List Dat} {kn : DN RSt Bool}
theorem ac_yes (h : (!d.isL || !(d.items.map fun x => stD b x).all id) = false) : d.isL = true ∧ ∀ x ∈ d.items, StD b x := by
  obtain ⟨h1, h2⟩ := Bool.or_eq_false_iff.mp h
  exact ⟨by simpa using h1, fun x hx => st_t (all_id.mp (by simpa using h2) x hx)⟩
theorem ac_no (h : (!d.isL || !(d.items.map fun x => stD b x).all id) = true) : false = clD b f d := by
  unfold clD
  refine (dec_f fun z => ?_).symm
  obtain ⟨ss, rfl, h1, _⟩ := z
  have h2 : ((ss.map (ToD.dat : RSt → Dat)).map fun x => stD b x).all id = true := all_id.mpr fun x hx => by
    obtain ⟨s, hs, rfl⟩ := List.mem_map.mp hx
    unfold stD
    exact dec_t ⟨s, rfl, h1 s hs⟩
  have h3 : (Dat.lst (ss.map (ToD.dat : RSt → Dat))).items = ss.map ToD.dat := rfl
  have h4 : (Dat.lst (ss.map (ToD.dat : RSt → Dat))).isL = true := rfl
  rw [h3, h4, h2] at h
  cases h
theorem ac_no2 (hl : d.isL = true) (hk : KnS d.items kn) (h : (!decide (((kn.l.length : Nat) : Int) = ((d.items.length : Nat) : Int)) || !(kn.get? f).isSome) = true) : false = clD b f d := by
  unfold clD
  refine (dec_f fun z => ?_).symm
  obtain ⟨ss, rfl, _, h2, h3, _⟩ := z
  obtain ⟨ks, k1, k2, k3, k4, k5⟩ := hk
  have e : (Dat.lst (ss.map (ToD.dat : RSt → Dat))).items = ss.map ToD.dat := rfl
  rw [e] at h k3
  rw [cl_list] at k3
  have hle : ss.length ≤ ks.length := nodup_le h2 fun s hs => (k3 s).mpr hs
  have hge : ks.length ≤ ss.length := nodup_le k2 fun s hs => (k3 s).mp hs
  rw [k1.has, decide_eq_true ((k3 f).mpr h3), k1.len, List.length_map, decide_eq_true (by omega)] at h
  cases h
where
  nodup_le : ∀ {xs ys : List RSt}, xs.Nodup → (∀ x ∈ xs, x ∈ ys) → xs.length ≤ ys.length
    | [], _, _, _ => Nat.zero_le _
    | x :: xs, ys, h, hs => by
      have hx := hs x List.mem_cons_self
      have hn := List.nodup_cons.mp h
      have ih := nodup_le (ys := ys.erase x) hn.2 fun y hy => (List.mem_erase_of_ne (fun e : y = x => hn.1 (by rw [← e]; exact hy))).mpr (hs y (List.mem_cons_of_mem _ hy))
      rw [List.length_erase_of_mem hx] at ih
      have := List.length_pos_of_mem hx
      rw [List.length_cons]
      omega
theorem ac_yes2 (hk : KnS d.items kn) (hs : ∀ x ∈ d.items, StD b x) (h : (!decide (((kn.l.length : Nat) : Int) = ((d.items.length : Nat) : Int)) || !(kn.get? f).isSome) = false) : ∃ k2 : DN RSt Bool, ClI b d.items k2 ∧ (∀ s, (kn.get? s).isSome = (k2.get? s).isSome) ∧ (k2.get? f).isSome = true := by
  obtain ⟨h1, h2⟩ := Bool.or_eq_false_iff.mp h
  obtain ⟨ks, k1, k2, k3, k4, k5⟩ := hk
  have h3 : ((kn.l.length : Nat) : Int) = ((d.items.length : Nat) : Int) := by simpa using h1
  rw [k1.len] at h3
  have e : ∀ s : RSt, ((⟨(d.items.map stOf).map fun s => (s, true)⟩ : DN RSt Bool).get? s).isSome = decide (s ∈ d.items.map stOf) := fun s => KnR.has (fd := d.items.map stOf) (by show (List.map _ _).map Prod.fst = _; rw [List.map_map]; exact List.map_id _) s
  refine ⟨⟨(d.items.map stOf).map fun s => (s, true)⟩, ⟨hs, k5 (by omega), by show (List.map _ _).map Prod.fst = _; rw [List.map_map]; exact List.map_id _⟩, fun s => ?_, ?_⟩
  · rw [k1.has, e s, decide_eq_decide]; exact k3 s
  · rw [e f]
    rw [k1.has] at h2
    have : f ∈ ks := by simpa using h2
    exact decide_eq_true ((k3 f).mp this)
end
end GL
namespace GL
open PySem PySem.Spec PyProof.Rows L2
theorem KnS.le {pre : List Dat} {kn : DN RSt Bool} (h : KnS pre kn) : kn.l.length ≤ pre.length := by
  obtain ⟨ss, h1, h2, h3, h4, h5⟩ := h
  rw [h1.len]
  exact h4
def lastB (b : Book) (d : Dat) : Option RSt := if d.isL = true then (alongM b d.items).map fun l => lastI l else none
section
variable {b : Book} {d : Dat} {found : Option (List RSt)}
theorem lb_ret0 (h : (!d.isL) = true) : none = lastB b d := by
  unfold lastB
  rw [if_neg (by simpa using h)]
theorem lb_ret1 (hf : found = alongM b d.items) (h : found.isNone = true) : none = lastB b d := by
  unfold lastB
  rw [← hf, Option.isNone_iff_eq_none.mp h]
  split <;> rfl
theorem lb_ret2 (hf : found = alongM b d.items) (h0 : (!d.isL) = false) (h : found.isNone = false) : some (lastI (found.getD default)) = lastB b d := by
  unfold lastB
  rw [if_pos (by simpa using h0), ← hf, getD_some (d := default) (isNone_false h)]
  rfl
theorem two_two (h : (!d.isT || !decide (((d.items.length : Nat) : Int) = 2)) = false) : d.isT = true ∧ d.items.length = 2 := by
  obtain ⟨h1, h2⟩ := Bool.or_eq_false_iff.mp h
  have : ((d.items.length : Nat) : Int) = 2 := by simpa using h2
  exact ⟨by simpa using h1, by omega⟩
end
structure ThOk (d : Dat) : Prop where
  sh : ∀ {x : Dat}, x ∈ d.items → SeqAt.shaped x.pd = true
  le : ∀ x ∈ d.items, x.items.length ≤ 1000
  inn : ∀ x ∈ d.items, ∀ y ∈ x.items, ∀ z ∈ y.items, z.items.length ≤ 1000000
@[irreducible] noncomputable def tworD (b : Book) (d : Dat) : Bool := (d.isT && decide (((d.items.length : Nat) : Int) = 2)) &&
  (if isS (ix d.items 0) (Str.ofString "two") = true then ((lastB b (ix d.items 1)).isSome && decide (((rnsM b ((lastB b (ix d.items 1)).getD default)).length : Int) = 2))
   else (isS (ix d.items 0) (Str.ofString "never") && clD b firstS (ix d.items 1)) && ((ix d.items 1).items.map fun x => decide (((rnsM b (stOf x)).length : Int) < 2)).all id)
theorem nn_t4 {α β γ δ : Type} [Py α] [Py β] [Py γ] [Py δ] : ∀ (K : Fg) (S : Hp) (v : V) (y : T4 α β γ δ), Py.rep K S v y → v ≠ V.non := fun K S v y h => by
  obtain ⟨p, a, b, c, d, rfl, _⟩ := h
  intro e
  cases e
section
variable {b : Book} {f : RSt} {d : Dat} {last : Option RSt}
theorem lastB_ok {s : RSt} (hb : BookOk b) (h : lastB b d = some s) (hl : d.items.length ≤ 2000) : StOk b s := by
  unfold lastB at h
  split at h
  · cases e : alongM b d.items with
    | none => rw [e] at h; cases h
    | some l =>
      rw [e] at h
      have h9 := alongM_ok hb e
      have : lastI l = s := Option.some.inj h
      rw [← this]
      exact h9.last
  · cases h
theorem cl_all (h : clD b f d = true) : d.isL = true ∧ ∀ x ∈ d.items, StD b x := by
  unfold clD at h
  obtain ⟨ss, rfl, h1, _⟩ := of_dec h
  refine ⟨rfl, fun x hx => ?_⟩
  obtain ⟨s, hs, rfl⟩ := List.mem_map.mp (show x ∈ ss.map (ToD.dat : RSt → Dat) from hx)
  exact ⟨s, rfl, h1 s hs⟩
theorem two_ret0 (h : (!d.isT || !decide (((d.items.length : Nat) : Int) = 2)) = true) : false = tworD b d := by
  unfold tworD
  have : (d.isT && decide (((d.items.length : Nat) : Int) = 2)) = false := by
    cases h1 : d.isT with
    | false => rfl
    | true =>
      rw [h1] at h
      simpa using h
  rw [this]
  rfl
theorem two_two' (h : (!d.isT || !decide (((d.items.length : Nat) : Int) = 2)) = false) : (d.isT && decide (((d.items.length : Nat) : Int) = 2)) = true := by
  obtain ⟨h1, h2⟩ := two_two h
  rw [h1, decide_eq_true (by omega)]
  rfl
theorem two_ret1 (h : (!d.isT || !decide (((d.items.length : Nat) : Int) = 2)) = false) (h1 : isS (ix d.items 0) (Str.ofString "two") = true) (hl : last = lastB b (ix d.items 1)) : (last.isSome && decide (((rnsM b (last.getD default)).length : Int) = 2)) = tworD b d := by
  unfold tworD
  rw [two_two' h, if_pos h1, hl]
  rfl
theorem two_ret2 (h : (!d.isT || !decide (((d.items.length : Nat) : Int) = 2)) = false) (h1 : isS (ix d.items 0) (Str.ofString "two") = false) (h2 : (!isS (ix d.items 0) (Str.ofString "never") || !clD b firstS (ix d.items 1)) = true) : false = tworD b d := by
  unfold tworD
  rw [two_two' h, if_neg (by rw [h1]; decide)]
  have : (isS (ix d.items 0) (Str.ofString "never") && clD b firstS (ix d.items 1)) = false := by
    cases q : isS (ix d.items 0) (Str.ofString "never") with
    | false => rfl
    | true =>
      rw [q] at h2
      simpa using h2
  rw [this]
  rfl
theorem two_nc (h2 : (!isS (ix d.items 0) (Str.ofString "never") || !clD b firstS (ix d.items 1)) = false) : isS (ix d.items 0) (Str.ofString "never") = true ∧ clD b firstS (ix d.items 1) = true := by
  obtain ⟨a, c⟩ := Bool.or_eq_false_iff.mp h2
  exact ⟨by simpa using a, by simpa using c⟩
theorem two_ret3 (h : (!d.isT || !decide (((d.items.length : Nat) : Int) = 2)) = false) (h1 : isS (ix d.items 0) (Str.ofString "two") = false) (h2 : (!isS (ix d.items 0) (Str.ofString "never") || !clD b firstS (ix d.items 1)) = false) : ((ix d.items 1).items.map fun x => decide (((rnsM b (stOf x)).length : Int) < 2)).all id = tworD b d := by
  unfold tworD
  obtain ⟨a, c⟩ := two_nc h2
  rw [two_two' h, if_neg (by rw [h1]; decide), a, c]
  rfl
end
end GL
namespace RZm
open PySem
section
variable {prog : Program} {w : World} {A : Around} {E : Value → Shared → Prop} {s : Shared}
abbrev mH1 (h : Heap) (a : Addr) : Heap := h.push { cls := .type "list_iterator", data := .fields #[.ref a, .int 0 0] }
abbrev mH2 (h : Heap) (a b : Addr) : Heap := (mH1 h a).push { cls := .type "tuple_iterator", data := .fields #[.ref b, .int 0 0] }
abbrev mH3 (h : Heap) (a b : Addr) : Heap := (mH2 h a b).push { cls := .type "tuple", data := .seq #[.ref h.objs.size, .ref (mH1 h a).objs.size] }
abbrev mH4 (h : Heap) (a b : Addr) : Heap := (mH3 h a b).push { cls := .type "tuple", data := .seq #[.none, .none] }
abbrev mH5 (h : Heap) (a b : Addr) : Heap := (mH4 h a b).push { cls := .type "zip", data := .fields #[.none, .bool false, .bool false, .ref (mH2 h a b).objs.size, .ref (mH3 h a b).objs.size] }
end
end RZm
namespace L2
open PySem PySem.Spec PyProof.Rows
def ItLT (K : PySem.W.Frag) (a b : Addr) : It :=
  ⟨fun i H => ∃ (us vs : List V) (x y : V), SqL K H a us ∧ SqT K H b vs ∧ us[i]? = some x ∧ vs[i]? = some y,
    fun i H v H' => ∃ N x y, v = .ref N ∧ H N = none ∧ H' = upd H N (.tup [x, y]) ∧ (∀ us, SqL K H a us → us[i]? = some x) ∧ ∀ vs, SqT K H b vs → vs[i]? = some y,
    fun i H => ∃ us vs : List V, SqL K H a us ∧ SqT K H b vs ∧ (us.length ≤ i ∨ vs.length ≤ i)⟩
def iZipM (K : PySem.W.Frag) (ta : TA) : TI := fun σ H R => ta σ H fun ws H1 => ∃ a b us vs, ws = [.ref a, .ref b] ∧ SqL K H1 a us ∧ SqT K H1 b vs ∧ R (ItLT K a b) H1
end L2
namespace GL
open PySem PySem.Spec PyProof.Rows L2
section
variable {K : Fg} {B S0 S1 S S' D : Hp} {σ : L2.St} {H H' : Hp} {F : Nat → List Addr} {G G' G1 G2 G3 : List Sl} {ta tb tc te : TE}
end
end GL
namespace PySem.SeqAt
open AutoSeq1 (wpAny_loadPart')
open MeetsSeq MeetsSeq2 MeetsSeq3 SeqRoads2
section
variable {prog : Program} {w : World}
theorem tb_list_neIn (l b : Addr) (items items2 : Array Value) (n n2 : Nat) (dd dd2 : Option Addr) (sl sl2 : Array (Option Value)) (hsz : items.size ≠ items2.size) :
    MeetsIn prog w (Builtin.«list.__eq__» ⟨[.ref l, .ref b], []⟩)
      (fun A R s => s.heap.get? l = some { cls := .type "list", dict := dd, data := .seq items n, slots := sl } ∧ s.heap.get? b = some { cls := .type "list", dict := dd2, data := .seq items2 n2, slots := sl2 } ∧
        R (.ok (.ret (.bool false))) s) := by
  intro A R s h
  obtain ⟨hp, g, d, tk, os⟩ := s; obtain ⟨hl, hb, h⟩ := h
  have f3 := AutoSeq1.sub_list_list
  have hne : (items.size != items2.size) = true := by simp [hsz]
  wp_walk using wpAny_loadPart' hl, wpAny_loadPart' hb
  exact h
theorem tb_listsN {A : Around} {s : Shared} {l b : Addr} {items items2 : Array Value} (hl : s.heap.IsList l items) (hb : s.heap.IsList b items2) (hsz : items.size ≠ items2.size) (hu : A.units < cLine)
    (E Q : Value → Shared → Prop) (h : Q (.bool false) s) : wpAny (model prog w) A (richCompare .Eq (.ref l) (.ref b)) Q E s := by
  obtain ⟨⟨cls, dd, data, sl⟩, ho, hc, n, hd⟩ := id hl
  obtain ⟨⟨cls2, dd2, data2, sl2⟩, ho2, hc2, n2, hd2⟩ := id hb
  simp only at hc hd hc2 hd2
  subst hc hd hc2 hd2
  have ta : s.TypeIs (.ref l) "list" := ⟨_, ho, rfl⟩
  have tb : s.TypeIs (.ref b) "list" := ⟨_, ho2, rfl⟩
  exact wpAny_richCompare_same_room (op := .Eq) ta tb F.slot_list_eq (call_meetsIn F.slot_list_eq ta F.entry_list_eq (F.args_list_eq_2 _ _) (tb_list_neIn l b items items2 n n2 dd dd2 sl sl2 hsz)
    ⟨ho, ho2, show Value.bool false ≠ Value.notImplemented ∧ Q (.bool false) s from ⟨(fun x => nomatch x), h⟩⟩) hu
end
end PySem.SeqAt
namespace L2
open PySem PySem.Spec PyProof.Rows
def rEqNl (K : PySem.W.Frag) : R2 := fun x y H Q => ∃ p q xs, x = .ref p ∧ y = .ref q ∧ SqL K H p xs ∧ SqL K H q [] ∧ Q (.bl xs.isEmpty) H
theorem op_eqNl {X : Cx} (hu : X.A.units < cLine) : OpR X (compareOp .Eq) (rEqNl X.K) := by
  intro pins s σ H x y v u Q I rx ry h
  obtain ⟨p, r, xs, rfl, rfl, h1, h2, q⟩ := h
  cases rx
  cases ry
  obtain ⟨its, rv, pl, hz⟩ := I.list h1
  obtain ⟨its2, rv2, pl2, hz2⟩ := I.list h2
  have e2 : its2 = [] := by cases rv2; rfl
  subst e2
  show wpAny (model X.prog X.w) X.A (richCompare .Eq (.ref p) (.ref r)) (EP X pins σ Q) X.xe s
  cases xs with
  | nil =>
    have e1 : its = [] := by cases rv; rfl
    subst e1
    exact PySem.SeqAt.rcP_lists (e := fun _ => true) pl.isList pl2.isList rfl hu (fun j h1 => absurd h1 (by simp)) _ _ ⟨.bl true, H, I, rfl, q⟩
  | cons a xs =>
    cases rv with
    | cons r1 rv => exact PySem.SeqAt.tb_listsN pl.isList pl2.isList (by simp) hu _ _ ⟨.bl false, H, I, rfl, q⟩
def rLenX : List V → Hp → VK → Prop := fun xs H Q => ∃ z, xs = [.str z] ∧ z.length ≤ sizeLine ∧ Q (.int z.length) H
def inS (i j : Str) : Bool := !(Builtin.Str.occurrences j i 0 j.length 1).isEmpty
def rNinS : R2 := fun x y H Q => ∃ i j, x = .str i ∧ y = .str j ∧ Q (.bl (!inS i j)) H
def rInS : R2 := fun x y H Q => ∃ i j, x = .str i ∧ y = .str j ∧ Q (.bl (inS i j)) H
def rIntX : List V → Hp → VK → Prop := fun xs H Q => ∃ a n, xs = [.str a] ∧ PySem.intText? a = some n ∧ a.length ≤ 640 ∧ Q (.int n) H
def rSplitS : V → List V → Hp → VK → Prop := fun x xs H Q => ∃ a b, x = .str a ∧ xs = [.str b] ∧ (b.length == 0) = false ∧ a.length + 2 ≤ sizeLine ∧ rNewStrs (Txt.split a b) H Q
def rJoinS (K : PySem.W.Frag) : V → List V → Hp → VK → Prop := fun x xs H Q => ∃ a p, ∃ ys : List Str, x = .str a ∧ xs = [.ref p] ∧ (SqL K H p (ys.map V.str) ∨ SqT K H p (ys.map V.str)) ∧
    (ys.map (·.length)).sum + ys.length * a.length ≤ 16777216 ∧ Q (.str (Txt.join a ys)) H
def rStrD : List V → Hp → VK → Prop := fun xs H Q => (∃ a, xs = [.str a] ∧ Q (.str a) H) ∨ (∃ i, xs = [.int i] ∧ i.natAbs.log2 < 1920 ∧ Q (.str (toString i)) H)
end L2
namespace GL
open PySem PySem.Spec PyProof.Rows L2
def signs (a : Str) : List Str := a.cps.toList.map fun c => (⟨#[c]⟩ : Str)
def partT : Dat → Str
  | .int n => Str.ofString (toString n)
  | .str s => s
  | _ => Str.empty
def TxtOk : Dat → Prop
  | .int n => n.natAbs.log2 < 1920
  | .str _ => True
  | _ => False
section
variable {K : Fg} {B S0 S1 S S' D : Hp} {σ : L2.St} {H H' : Hp} {F : Nat → List Addr} {G G' G1 G2 G3 : List Sl} {ta tb tc te : TE} {i j : Nat} {t u w : TS} {E : Ends}
def NoneOk (xs : List Dat) : Prop := ∀ d ∈ xs, d.isN = true ∨ d.isInt = true
theorem ev_eqNl {α : Type} [Py α] {xs : List α} (ha : EvC K ta G xs G1) : EvX K (tOp (rEqNl K) ta (tLst tNil)) G (decide (xs.length = 0)) G1 := fun B S0 S σ H F k Q q =>
  ha B S0 S σ H F k _ fun v S1 H1 e1 k1 r1 => ⟨by show 0 ≤ sizeLine; decide, fun p hp => by
    obtain ⟨a, vs, rfl, h1, h2⟩ := r1.at k1
    have hne : a ≠ p := fun e => by rw [e, hp] at h1; cases h1
    have hv : upd H1 p (.lst []) a = some (.lst vs) := by rw [upd_ne hne]; exact h1
    refine ⟨a, p, vs, rfl, rfl, SqL.of hv, SqL.of upd_same, q _ S1 _ e1 (k1.raw hp) ?_⟩
    show V.bl vs.isEmpty = V.bl _
    have := h2.len
    cases vs with
    | nil => rw [decide_eq_true (by simpa using this.symm)]; rfl
    | cons x vs => rw [decide_eq_false (by rw [← this]; simp)]; rfl⟩
end
end GL
namespace GL
open PySem PySem.Spec PyProof.Rows L2
theorem ev_cat22 {K : Fg} {G G1 G2 : List Sl} {ta tb : TE} {α β γ δ : Type} [Py α] [Py β] [Py γ] [Py δ] {x : α × β} {y : γ × δ} (ha : EvX K ta G x G1) (hb : EvX K tb G1 y G2) : EvX K (tOp (rCatA K) ta tb) G (T4.mk x.1 x.2 y.1 y.2) G2 := fun B S0 S σ H F k Q q =>
  ha B S0 S σ H F k _ fun v S1 H1 e1 k1 r1 => hb B S0 S1 σ H1 F k1 _ fun w S2 H2 e2 k2 r2 => by
    obtain ⟨p, a, b, rfl, hp, ra, rb⟩ := Py.mono e2 r1
    obtain ⟨p', c, d, rfl, hp', rc, rd⟩ := r2
    refine ⟨p, p', [a, b], [c, d], rfl, rfl, seqT k2.sub hp, seqT k2.sub hp', by show 4 ≤ sizeLine; decide, fun e => (by cases e), fun _ e => (by cases e), fun _ _ l hl => ?_⟩
    have e5 := same_new (o := .tup [a, b, c, d]) (k2.free hl).1
    exact q _ _ _ ((e1.trans e2).trans e5) (k2.new hl) ⟨l, a, b, c, d, rfl, SqT.of upd_same, Py.mono e5 ra, Py.mono e5 rb, Py.mono e5 rc, Py.mono e5 rd⟩
section
variable {b : Book} {f : RSt} {d : Dat} {states : Option (List RSt)}
theorem du_three (h : ((!d.isT || !decide (((d.items.length : Nat) : Int) = 2)) || !(ix d.items 1).isL) = false) : (!d.isT || !decide (((d.items.length : Nat) : Int) = 2)) = false ∧ (ix d.items 1).isL = true := by
  obtain ⟨h1, h2⟩ := Bool.or_eq_false_iff.mp h
  exact ⟨h1, by simpa using h2⟩
theorem du_three' (h : (!d.isT || (!decide (((d.items.length : Nat) : Int) = 2) || !(ix d.items 1).isL)) = false) : (!d.isT || !decide (((d.items.length : Nat) : Int) = 2)) = false ∧ (ix d.items 1).isL = true := du_three (by rw [← h, Bool.or_assoc])
theorem two_noL (h : (!d.isT || !decide (((d.items.length : Nat) : Int) = 2)) = false) (hl : (ix d.items 1).isL = false) : false = tworD b d := by
  cases q : isS (ix d.items 0) (Str.ofString "two") with
  | true =>
    have e : lastB b (ix d.items 1) = none := by unfold lastB; rw [if_neg (by rw [hl]; decide)]
    have := two_ret1 (b := b) (last := none) h q e.symm
    rw [← this]
    rfl
  | false =>
    refine two_ret2 h q ?_
    have : clD b firstS (ix d.items 1) = false := by
      cases z : clD b firstS (ix d.items 1) with
      | false => rfl
      | true => rw [(cl_all z).1] at hl; cases hl
    rw [this]
    simp
theorem law_ret0 (h : (!d.isT || (!decide (((d.items.length : Nat) : Int) = 2) || !(ix d.items 1).isL)) = true) : false = tworD b d := by
  cases q : (!d.isT || !decide (((d.items.length : Nat) : Int) = 2)) with
  | true => exact two_ret0 q
  | false =>
    refine two_noL q ?_
    rw [← Bool.or_assoc, q] at h
    simpa using h
theorem law_ret1 (h : (!d.isT || (!decide (((d.items.length : Nat) : Int) = 2) || !(ix d.items 1).isL)) = false) (h1 : isS (ix d.items 0) (Str.ofString "two") = true) (hs : states = alongM b (ix d.items 1).items) : (states.isSome && decide (((rnsM b (lastI (states.getD default))).length : Int) = 2)) = tworD b d := by
  obtain ⟨q1, q2⟩ := du_three' h
  have e : lastB b (ix d.items 1) = states.map fun l => lastI l := by unfold lastB; rw [if_pos q2, hs]
  rw [← two_ret1 (b := b) (last := states.map fun l => lastI l) q1 h1 e.symm]
  cases states <;> rfl
theorem rns_le {s : RSt} : (rnsM b s).length ≤ 2 := by
  unfold rnsM
  rw [List.length_map]
  exact List.length_filter_le _ _
theorem law_ret3 (h : (!d.isT || (!decide (((d.items.length : Nat) : Int) = 2) || !(ix d.items 1).isL)) = false) (h1 : isS (ix d.items 0) (Str.ofString "two") = false) (h2 : (!isS (ix d.items 0) (Str.ofString "never") || !clD b firstS (ix d.items 1)) = false) {xs : List Dat} (hx : xs = (ix d.items 1).items.filter fun x => decide (((rnsM b (stOf x)).length : Int) = 2)) : decide (xs.length = 0) = tworD b d := by
  obtain ⟨q1, _⟩ := du_three' h
  rw [← two_ret3 q1 h1 h2]
  cases q : ((ix d.items 1).items.map fun x => decide (((rnsM b (stOf x)).length : Int) < 2)).all id with
  | true =>
    refine decide_eq_true ?_
    rw [List.length_eq_zero_iff, hx, List.filter_eq_nil_iff]
    intro x hm hc
    have h3 := of_decide_eq_true (all_id.mp q x hm)
    have h4 := of_decide_eq_true hc
    omega
  | false =>
    refine decide_eq_false fun z => ?_
    rw [List.length_eq_zero_iff, hx, List.filter_eq_nil_iff] at z
    have : ((ix d.items 1).items.map fun x => decide (((rnsM b (stOf x)).length : Int) < 2)).all id = true := all_id.mpr fun x hm => by
      have h3 := z x hm
      have h4 := rns_le (b := b) (s := stOf x)
      have h5 : ¬ ((rnsM b (stOf x)).length : Int) = 2 := fun e => h3 (decide_eq_true e)
      exact decide_eq_true (by omega)
    rw [this] at q
    cases q
end
def letsM (b : Book) (one : Int) : Tp Int := ⟨(rng 0 b.c).filter fun k => decide (stirM one k % 2 = 0)⟩
theorem lets_lts {b : Book} {one : Int} : LtsOk b.c (letsM b one).l := ⟨(rng_sorted 0 b.c).filter _, fun x hx => mem_rng.mp (List.mem_filter.mp hx).1⟩
@[irreducible] def startM (b : Book) (found : List RSt) (some : List Int) : RSt :=
  if decide (ix some 0 % 2 = 0) = true then ⟨(ix found (ix some 1 % (found.length : Int))).a, (ix found (ix some 1 % (found.length : Int))).b, ⟨usrt ((ix found (ix some 1 % (found.length : Int))).c.l ++ (letsM b (ix some 2)).l)⟩, (ix found (ix some 1 % (found.length : Int))).d⟩
  else ⟨ix some 1 % (b.a.l.length : Int), ix some 2 % (b.b.l.length : Int), letsM b (ix some 3), letsM b (ix some 4)⟩
theorem start_ok {b : Book} {found : List RSt} {some : List Int} (hb : BookOk b) (hf : ∀ s ∈ found, StOk b s) (h0 : found ≠ []) : StOk b (startM b found some) := by
  unfold startM
  split
  · have hm := List.length_pos_iff.mpr h0
    have hs := hf _ (ix_mem (xs := found) (i := ix some 1 % (found.length : Int)) (Int.emod_nonneg _ (by omega)) (Int.emod_lt_of_pos _ (by omega)))
    refine ⟨hs.old, hs.new, ⟨usrt_pw _, fun x hx => ?_⟩, hs.ln⟩
    rcases List.mem_append.mp (mem_usrt.mp hx) with q | q
    · exact hs.lo.bd x q
    · exact lets_lts.bd x q
  · have h1 := hb.old
    have h2 := hb.new
    exact ⟨⟨Int.emod_nonneg _ (by omega), Int.emod_lt_of_pos _ (by omega)⟩, ⟨Int.emod_nonneg _ (by omega), Int.emod_lt_of_pos _ (by omega)⟩, lets_lts, lets_lts⟩
theorem lets_few {b : Book} {one : Int} (hb : BookOk b) : (letsM b one).l.length ≤ 25 := by
  have h1 := hb.letters
  unfold letsM
  refine Nat.le_trans (List.length_filter_le _ _) ?_
  rw [len_rng]
  omega
theorem mod_memS {b : Book} {found : List RSt} {k : Int} (hf : ∀ s ∈ found, StOk b s) (h0 : 0 < found.length) : StOk b (ix found (k % (found.length : Int))) :=
  hf _ (ix_mem (Int.emod_nonneg _ (by omega)) (Int.emod_lt_of_pos _ (by omega)))
theorem start_r0 {b : Book} {found : List RSt} {some : List Int} (h : decide (ix some 0 % 2 = 0) = true) : (⟨(ix found (ix some 1 % (found.length : Int))).a, (ix found (ix some 1 % (found.length : Int))).b, ⟨usrt ((ix found (ix some 1 % (found.length : Int))).c.l ++ (letsM b (ix some 2)).l)⟩, (ix found (ix some 1 % (found.length : Int))).d⟩ : RSt) = startM b found some := by
  unfold startM
  rw [if_pos h]
theorem start_r1 {b : Book} {found : List RSt} {some : List Int} (h : decide (ix some 0 % 2 = 0) = false) : (⟨ix some 1 % (b.a.l.length : Int), ix some 2 % (b.b.l.length : Int), letsM b (ix some 3), letsM b (ix some 4)⟩ : RSt) = startM b found some := by
  unfold startM
  rw [if_neg (by rw [h]; decide)]
structure GOn (b : Book) (fd : List RSt) (kn : DN RSt Bool) : Prop where
  ok : ∀ s ∈ fd, StOk b s
  kn : KnR fd kn
theorem GOn.start {b : Book} : GOn b [] DN.emp := ⟨fun s h => (nomatch h), rfl⟩
theorem GOn.add {b : Book} {fd : List RSt} {kn : DN RSt Bool} {s : RSt} (h : GOn b fd kn) (hs : StOk b s) (hn : (!(kn.get? s).isSome) = true) : GOn b (fd ++ [s]) (kn.put s true) := by
  have hm : s ∉ fd := fun q => by
    rw [h.kn.has, decide_eq_true q] at hn
    cases hn
  exact ⟨all_snocS h.ok hs, h.kn.put hm⟩
theorem dsz_nil {k w : Nat} : ∀ x ∈ ([] : List Dat), DSz k w x := fun x hx => nomatch hx
theorem dsz_cons {k w : Nat} {x : Dat} {l : List Dat} (h : DSz k w x) (hl : ∀ y ∈ l, DSz k w y) : ∀ y ∈ x :: l, DSz k w y := fun y hy => by
  rcases List.mem_cons.mp hy with e | e
  · rw [e]; exact h
  · exact hl y e
theorem dsz_app {k w : Nat} {l l' : List Dat} (h : ∀ y ∈ l, DSz k w y) (h' : ∀ y ∈ l', DSz k w y) : ∀ y ∈ l ++ l', DSz k w y := fun y hy => (List.mem_append.mp hy).elim (h y) (h' y)
theorem dsz_ix {k w : Nat} {l : List Dat} {n : Int} (h : ∀ y ∈ l, DSz k w y) : DSz k w (ix l n) := by
  unfold ix
  rw [List.getD_eq_getElem?_getD]
  cases e : l[n.toNat]? with
  | none => exact dsz_non
  | some x => exact h x (List.mem_of_getElem? e)
theorem dsz_ints {k : Nat} {l : List Int} (hb : ∀ x ∈ l, 0 ≤ x ∧ x < 1000) (hl : l.length ≤ 26) : (DSz (k + 1) 1100 (.tup (l.map Dat.int))) ∧ DSz (k + 1) 1100 (.lst (l.map Dat.int)) := by
  have h : ∀ x ∈ l.map Dat.int, DSz k 40 x := fun x hx => by
    obtain ⟨n, hn, rfl⟩ := List.mem_map.mp hx
    have := hb n hn
    exact dsz_int (by omega) (Nat.le_refl _)
  exact ⟨dsz_tup h (by rw [List.length_map]; omega), dsz_lst h (by rw [List.length_map]; omega)⟩
theorem dsz_four {k : Nat} {a c d e : Dat} (h1 : DSz k 1100 a) (h2 : DSz k 1100 c) (h3 : DSz k 1100 d) (h4 : DSz k 1100 e) : DSz (k + 1) 5000 (.tup [a, c, d, e]) := dsz_tup (dsz_cons h1 (dsz_cons h2 (dsz_cons h3 (dsz_cons h4 dsz_nil)))) (by show 4 * (1100 + 1) ≤ 5000; decide)
theorem dsz_four' {k : Nat} {a c d e : Dat} (h1 : DSz k 1100 a) (h2 : DSz k 1100 c) (h3 : DSz k 1100 d) (h4 : DSz k 1100 e) : DSz (k + 1) 5000 (.lst [a, c, d, e]) := dsz_lst (dsz_cons h1 (dsz_cons h2 (dsz_cons h3 (dsz_cons h4 dsz_nil)))) (by show 4 * (1100 + 1) ≤ 5000; decide)
structure PartsOk (s : RSt) : Prop where
  a : 0 ≤ s.a ∧ s.a < 50
  b : 0 ≤ s.b ∧ s.b < 50
  c : (∀ x ∈ s.c.l, 0 ≤ x ∧ x < 25) ∧ s.c.l.length ≤ 25
  d : (∀ x ∈ s.d.l, 0 ≤ x ∧ x < 25) ∧ s.d.l.length ≤ 25
theorem parts_ok {b : Book} {s : RSt} (hb : BookOk b) (hs : StOk b s) : PartsOk s := by
  have h1 := hb.old
  have h2 := hb.new
  have h3 := hb.letters
  have h4 := hs.few hb
  have h5 := hs.old
  have h6 := hs.new
  exact ⟨by omega, by omega, ⟨fun x hx => by have := hs.lo.bd x hx; omega, h4.1⟩, ⟨fun x hx => by have := hs.ln.bd x hx; omega, h4.2⟩⟩
theorem dsz_st {s : RSt} (h : PartsOk s) {k : Nat} : DSz (k + 2) 5000 (ToD.dat s) :=
  dsz_four (k := k + 1) (dsz_int (by have := h.a; omega) (by decide)) (dsz_int (by have := h.b; omega) (by decide)) (dsz_ints (fun x hx => by have := h.c.1 x hx; omega) (by have := h.c.2; omega)).1 (dsz_ints (fun x hx => by have := h.d.1 x hx; omega) (by have := h.d.2; omega)).1
end GL
namespace RT
open PySem PySem.Spec PySem.SeqAt PyProof.Rows
theorem nolen_rt : typeLookup (.type "reversed") "__len__" = pure none := by rw [typeLookup_type, builtinLookup_eq_fast]; kernel_rfl
theorem hint_rt : typeLookup (.type "reversed") "__length_hint__" = pure (some (.builtin "reversed.__length_hint__")) := by rw [typeLookup_type, builtinLookup_eq_fast]; kernel_rfl
theorem slot_rt_hint : Slot "reversed" "__length_hint__" "reversed.__length_hint__" :=
  .of (owner := "reversed") (n := "__length_hint__") (by rw [typeLookup_type, builtinLookup_eq_fast]; kernel_rfl) (by decide +kernel) (by decide +kernel) (by decide +kernel)
    (by first | exact .inl (by decide +kernel) | exact .inr (by decide +kernel)) (by rw [isSubtype_type]; kernel_rfl)
theorem entry_rt_hint : entryFor table "reversed.__length_hint__" = some Builtin.«reversed.__length_hint__» := entryFor_of_tree (by kernel_rfl)
theorem args_rt_hint (a : Value) : argsOk "reversed.__length_hint__" ⟨[a], []⟩ := by
  unfold argsOk; rw [signature?_of (id := "reversed.__length_hint__") (n := ['_', '_', 't', 'n', 'i', 'h', '_', 'h', 't', 'g', 'n', 'e', 'l', '_', '_']) (o := ['d', 'e', 's', 'r', 'e', 'v', 'e', 'r']) (by kernel_rfl) owner_rt]; kernel_rfl
section
variable {prog : Program} {w : World} {A : Around} {E : Value → Shared → Prop} {s : Shared}
theorem walks_rt (hh : A.handled = none) (it t : Addr) (hne : t ≠ it) (items : Array Value) (hsz : items.size ≤ sizeLine) : Walks prog w A it [it, t] [it] items.size (fun i v => items[items.size - 1 - i]? = some v) (fun i h => i ≤ items.size ∧ IsRt h it t ((items.size : Int) - 1 - (i : Nat)) ∧ IsTup h t items) where
  sub := fun b hb => by rw [List.mem_singleton.mp hb]; exact List.mem_cons_self
  frame := fun i h h' ⟨h0, h1, h2⟩ e => ⟨h0, h1.at (e it List.mem_cons_self), by
    obtain ⟨o, ho, r⟩ := h2
    exact ⟨o, e t (by simp) _ ho, r⟩⟩
  item := fun i s Q E hi ⟨h0, h1, h2⟩ hQ => by
    have hx : items[items.size - 1 - i]? = some items[items.size - 1 - i] := Array.getElem?_eq_getElem (by omega)
    have e1 : ((items.size : Int) - 1 - (i : Nat)) = ((items.size - 1 - i : Nat) : Int) := by omega
    rw [e1] at h1
    refine next_rt_item h1 h2 hx hsz fun h' r eb => hQ _ h' _ hx ⟨by omega, ?_, ?_⟩ fun b o hb e => ?_
    · rw [show ((items.size : Int) - 1 - ((i + 1 : Nat) : Int)) = ((items.size - 1 - i : Nat) : Int) - 1 by omega]
      exact r
    · obtain ⟨o, ho, q⟩ := h2
      exact ⟨o, (eb.2 t hne).trans ho, q⟩
    · exact (eb.2 b (by simpa using hb)).trans e
  done := fun s Q E ⟨h0, h1, h2⟩ hQ => by
    rw [show ((items.size : Int) - 1 - ((items.size : Nat) : Int)) = -1 by omega] at h1
    exact next_rt_end hh h1 fun h' eb => hQ h' _ fun b o hb e => eb b o (by simpa using hb) e
  self := fun i s Q E ⟨_, h1, _⟩ h => iter_rt h1 h
theorem call_rt_hint {it t : Addr} {items : Array Value} {Q : Value → Shared → Prop} (hit : IsRt s.heap it t ((items.size : Int) - 1)) (ht : IsTup s.heap t items) (hn : items.size ≤ sizeLine)
    (h : ∀ u tk, Q (.int (items.size : Int) u) { s with toks := tk }) : wpAny (model prog w) A (call (.builtin "reversed.__length_hint__") [.ref it]) Q E s := by
  refine wpAny_call_entry slot_rt_hint hit.typeIs entry_rt_hint ?_ (args_rt_hint _)
  unfold Builtin.«reversed.__length_hint__»
  obtain ⟨o, ho, hc, hd⟩ := id hit
  refine wpAny_bind (wpAny_of_eq (a := Value.ref it) rfl ?_)
  refine wpAny_bind (wpAny_field ho hd (x := .ref t) rfl ?_)
  show wpAny _ _ (if (Value.ref t == Value.none) = true then _ else _) _ _ s
  rw [if_neg (show ¬ ((Value.ref t == Value.none) = true) from fun h => Bool.noConfusion (show false = true from h))]
  refine wpAny_bind (len_tuple ht (by rw [sizeLine_eq] at hn; omega) ?_)
  refine wpAny_bind (wpAny_of_eq (a := some (items.size : Int)) rfl ?_)
  try dsimp only
  refine wpAny_bind (wpAny_field (s := { s with toks := s.toks + 1 + 1 }) ho hd (x := rawInt ((items.size : Int) - 1)) rfl ?_)
  show wpAny _ _ (if (items.size : Int) < (items.size : Int) - 1 + 1 then _ else _) _ _ _
  rw [if_neg (by omega), show (items.size : Int) - 1 + 1 = (items.size : Int) by omega]
  refine wpAny_bind (wpAny_mkInt ?_)
  exact wpAny_pure ⟨_, rfl, h _ _⟩
theorem one_le_line : 1 ≤ sizeLine := by rw [sizeLine_eq]; omega
theorem asInt_int (n : Int) (u : Tok) : asInt? (Value.int n u) = pure (some n) := rfl
theorem collect_rt {it t : Addr} {items : Array Value} {Q : List Value → Shared → Prop} (hh : A.handled = none) (hit : IsRt s.heap it t ((items.size : Int) - 1)) (ht : IsTup s.heap t items) (hne : t ≠ it) (hn : items.size ≤ sizeLine)
    (hQ : ∀ (h' : Heap) (tk : Nat) (acc : Array Value), (∀ b o, b ≠ it → s.heap.get? b = some o → h'.get? b = some o) → ItemsOf (fun i v => items[items.size - 1 - i]? = some v) acc items.size → Q acc.toList { s with heap := h', toks := tk }) :
    wpAny (model prog w) A (collect (.ref it)) Q E s := by
  have W := (walks_rt (prog := prog) (w := w) (A := A.in1) hh it t hne items hn).toS
  obtain ⟨oi, hoi, _⟩ := id hit
  obtain ⟨ol, hol, _⟩ := id ht
  have hSi : s.heap.objs.size ≠ it := Nat.ne_of_gt (Heap.lt_size hoi)
  have hSl : s.heap.objs.size ≠ t := Nat.ne_of_gt (Heap.lt_size hol)
  have hSf : s.heap.objs.size ∉ [it, t] := by simp only [List.mem_cons, List.not_mem_nil, or_false, not_or]; exact ⟨hSi, hSl⟩
  unfold collect
  refine wpAny_bind (wpAny_runValue (codeAny_builtin F.entry_proto_collect ?_))
  rw [Around.under_plainId F.plain_proto_collect _]
  show wpAny _ A.in1 (newList [] >>= fun l' => again (.builtin "list.__iadd__" ⟨[l', .ref it], []⟩)) _ _ s
  refine wpAny_bind (wpAny_newObj_type ?_)
  refine wpAny_pure ⟨plainId_quiet F.plain_list_iadd _, codeAny_builtin F.entry_list_iadd ?_⟩
  rw [Around.under_plainId F.plain_list_iadd _]
  have keepP : ∀ b o, s.heap.get? b = some o → (s.heap.push { cls := .type "list", data := .seq ([] : List Value).toArray }).get? b = some o := fun b o e => Heap.get?_push_of_some _ e
  have hS₁ : (s.heap.push { cls := .type "list", data := .seq ([] : List Value).toArray }).get? s.heap.objs.size = some { cls := .type "list", data := .seq ([] : List Value).toArray } := Heap.get?_push_size _ rfl
  have hit1 : IsRt (s.heap.push { cls := .type "list", data := .seq ([] : List Value).toArray }) it t ((items.size : Int) - 1) := hit.at fun o e => keepP _ _ e
  have ht1 : IsTup (s.heap.push { cls := .type "list", data := .seq ([] : List Value).toArray }) t items := by
    obtain ⟨o, ho, q⟩ := ht
    exact ⟨o, keepP _ _ ho, q⟩
  have hT : ({ s with heap := s.heap.push { cls := .type "list", data := .seq ([] : List Value).toArray } } : Shared).TypeIs (.ref it) "reversed" := IsRt.typeIs (s := { s with heap := s.heap.push { cls := .type "list", data := .seq ([] : List Value).toArray } }) hit1
  have h1 : Builtin.List.listSameRef (.ref s.heap.objs.size) (.ref it) = false := by simp [Builtin.List.listSameRef, hSi]
  show wpAny _ A.in1 (Builtin.List.listExtendWith (.ref s.heap.objs.size) (.ref it) (.ref s.heap.objs.size)) _ _ _
  unfold Builtin.List.listExtendWith
  refine wpAny_bind (wpAny_typeOf hT ?_)
  rw [if_neg (by rw [h1]; decide)]
  refine wpAny_bind (iter_rt (s := { s with heap := s.heap.push { cls := .type "list", data := .seq ([] : List Value).toArray } }) hit1 ?_)
  refine wpAny_bind (wpAny_holding ?_)
  unfold Builtin.List.listLengthHint
  refine wpAny_bind (wpAny_specialOf hT nolen_rt ?_)
  show wpAny _ A.in1 (specialOf (Value.ref it) (Str.ofString "__length_hint__") >>= _) _ _ _
  refine wpAny_bind (wpAny_specialOf hT hint_rt ?_)
  generalize hid : ("reversed.__length_hint__" : String) = id0
  wp_delta
  rw [show splitId id0 = some ("reversed", "__length_hint__") from by subst hid; decide +kernel]
  subst hid
  refine wpAny_bind (wpAny_isInstance (b := true) hT (by rw [isSubtype_type]; kernel_rfl) ?_)
  rw [if_neg (by decide)]
  try dsimp only
  rw [if_neg (by decide +kernel)]
  refine wpAny_bind (wpAny_rule ?_)
  refine wpAny_bind (wpAny_of_eq (a := (Value.builtin "reversed.__length_hint__", [Value.ref it])) (by first | rfl | kernel_rfl) ?_)
  try dsimp only
  refine wpAny_bind (wpAny_attempt (call_rt_hint hit1 ht1 hn fun u tk => ?_))
  try dsimp only
  rw [asInt_int]
  refine wpAny_bind ?_
  refine wpAny_pure ?_
  have hz : items.size ≤ 16777216 := by rw [sizeLine_eq] at hn; omega
  have f1 : Builtin.List.listFitsIndex (items.size : Int) = true := by
    unfold Builtin.List.listFitsIndex
    rw [Bool.and_eq_true, decide_eq_true_iff, decide_eq_true_iff]
    exact ⟨by omega, by omega⟩
  have f3 : Builtin.List.listTooLong (Int.toNat (items.size : Int)) = false := by
    unfold Builtin.List.listTooLong
    rw [sizeLine_eq]
    exact decide_eq_false (by rw [Int.toNat_natCast]; omega)
  try dsimp only
  rw [if_neg (by rw [f1]; decide), if_neg (by omega), if_neg (by rw [f3]; decide)]
  refine wpAny_pure ?_
  have e0 : ((items.size : Int) - 1 - ((0 : Nat) : Int)) = (items.size : Int) - 1 := by omega
  by_cases hz0 : items.size = 0
  · rw [if_neg (by rw [show ((items.size : Int) != 0) = false by rw [hz0]; rfl]; decide +kernel)]
    refine wpAny_pure ⟨plainId_quiet F.plain_extend_loop _, codeAny_extend_loopS W hn _ hSf _ items.size 0 _ _ _ rfl (Nat.zero_le _) ⟨Nat.zero_le _, by rw [e0]; exact hit1, ht1⟩ hS₁ (ItemsOf.nil _) fun s' acc' c' hm hS' hacc => ?_⟩
    show wpAny _ A (load s.heap.objs.size >>= _) _ _ s'
    refine wpAny_bind (wpAny_load hS' ?_)
    refine wpAny_pure ?_
    rw [Moved.eq_with hm]
    refine hQ s'.heap s'.toks acc' (fun b o hb e => hm.heap b o (fun hmem => ?_) (keepP b o e)) hacc
    rcases List.mem_cons.mp hmem with e' | hmem
    · exact absurd (Heap.lt_size e) (by rw [e']; exact Nat.lt_irrefl _)
    · exact hb (List.mem_singleton.mp hmem)
  · rw [if_pos (by rw [show ((items.size : Int) != 0) = true by simpa using hz0]; rfl)]
    refine wpAny_bind (wpAny_rule ?_)
    refine wpAny_bind ?_
    show wpAny _ A.in1 (updateSeq s.heap.objs.size (·.push .none) >>= fun _ => updateSeq s.heap.objs.size (·.pop)) _ _ _
    refine wpAny_bind (wpAny_updateSeq (hz := Nat.zero_le _) (_hz' := Nat.succ_le_succ (Nat.zero_le _)) hS₁ rfl ?_)
    have hS₂ := Heap.get?_update_self (Obj.mapSeq (·.push Value.none)) hS₁ rfl
    refine wpAny_updateSeq (hz := one_le_line) (_hz' := Nat.zero_le _) hS₂ rfl ?_
    have hS₃ := Heap.get?_update_self (Obj.mapSeq (·.pop)) hS₂ rfl
    have oth : ∀ b o, b ≠ s.heap.objs.size → (s.heap.push { cls := .type "list", data := .seq ([] : List Value).toArray }).get? b = some o →
        (((s.heap.push { cls := .type "list", data := .seq ([] : List Value).toArray }).update s.heap.objs.size (Obj.mapSeq (·.push Value.none))).update s.heap.objs.size (Obj.mapSeq (·.pop))).get? b = some o :=
      fun b o hb e => (Heap.get?_update_other _ _ (Ne.symm hb)).trans ((Heap.get?_update_other _ _ (Ne.symm hb)).trans e)
    have ht3 : IsTup (((s.heap.push { cls := .type "list", data := .seq ([] : List Value).toArray }).update s.heap.objs.size (Obj.mapSeq (·.push Value.none))).update s.heap.objs.size (Obj.mapSeq (·.pop))) t items := by
      obtain ⟨o, ho, q⟩ := ht1
      exact ⟨o, oth t o (Ne.symm hSl) ho, q⟩
    refine wpAny_pure ⟨plainId_quiet F.plain_extend_loop _, codeAny_extend_loopS W hn _ hSf _ items.size 0 _ _ _ rfl (Nat.zero_le _) ⟨Nat.zero_le _, by rw [e0]; exact hit1.at fun o e => oth it o (Ne.symm hSi) e, ht3⟩ hS₃ (ItemsOf.nil _) fun s' acc' c' hm hS' hacc => ?_⟩
    show wpAny _ A (load s.heap.objs.size >>= _) _ _ s'
    refine wpAny_bind (wpAny_load hS' ?_)
    refine wpAny_pure ?_
    rw [Moved.eq_with hm]
    refine hQ s'.heap s'.toks acc' (fun b o hb e => hm.heap b o (fun hmem => ?_) (oth b o (Nat.ne_of_lt (Heap.lt_size e)) (keepP b o e))) hacc
    rcases List.mem_cons.mp hmem with e' | hmem
    · exact absurd (Heap.lt_size e) (by rw [e']; exact Nat.lt_irrefl _)
    · exact hb (List.mem_singleton.mp hmem)
theorem code_tuple_new_rt {it t : Addr} {items : Array Value} {Q₁ : Value → Shared → Prop} (hh : A.handled = none) (hit : IsRt s.heap it t ((items.size : Int) - 1)) (ht : IsTup s.heap t items) (hne : t ≠ it) (hn : items.size ≤ sizeLine)
    (h : ∀ (h' : Heap) (tk : Nat) (acc : Array Value), (∀ b o, b ≠ it → s.heap.get? b = some o → h'.get? b = some o) → ItemsOf (fun i v => items[items.size - 1 - i]? = some v) acc items.size →
      Q₁ (.ref h'.objs.size) { s with heap := h'.push { cls := .type "tuple", data := .seq acc }, toks := tk }) :
    codeAny (model prog w) A (.call (.builtin "tuple.__new__") ⟨[.type "tuple", .ref it], []⟩) (wants Q₁ E) s := by
  refine codeAny_of_tree ?_
  show wpAny _ A.in1 (do checkBuiltinCall "tuple.__new__" ⟨[.type "tuple", .ref it], []⟩; again (.builtin "tuple.__new__" ⟨[.type "tuple", .ref it], []⟩)) _ _ s
  refine wpAny_bind (wpAny_of_eq (F.newCall_tuple_1 _) (wpAny_pure ⟨plainId_quiet F.plain_tuple_new _, codeAny_builtin F.entry_tuple_new ?_⟩))
  rw [Around.under_plainId F.plain_tuple_new _]
  have hsub := sub_tuple_self
  have hinit := init_tuple_lookup
  have hmh := madeHere_tuple
  have hTI : s.TypeIs (.ref it) "reversed" := hit.typeIs
  have hh1 : A.in1.handled = none := hh
  wp_walk using wpAny_typeOf hTI, collect_rt (A := A.in1) hh1 hit ht hne hn
  intro h' tk acc hk hacc
  show wpAny _ _ (Builtin.Tuple.tupleExact acc.toList.toArray >>= fun v => ret v) _ _ _
  unfold Builtin.Tuple.tupleExact
  refine wpAny_bind (wpAny_newObj_type ?_ (by show acc.toList.toArray.size ≤ sizeLine; simp only [Array.toArray_toList]; rw [hacc.1]; exact hn))
  refine wpAny_pure ?_
  have e : acc.toList.toArray = acc := by simp
  rw [e]
  exact h h' tk acc hk hacc
theorem call_tuple_rt {it t : Addr} {items : Array Value} {Q : Value → Shared → Prop} (hh : A.handled = none) (hit : IsRt s.heap it t ((items.size : Int) - 1)) (ht : IsTup s.heap t items) (hne : t ≠ it) (hn : items.size ≤ sizeLine)
    (hQ : ∀ (h' : Heap) (tk : Nat) (acc : Array Value), (∀ b o, b ≠ it → s.heap.get? b = some o → h'.get? b = some o) → ItemsOf (fun i v => items[items.size - 1 - i]? = some v) acc items.size →
      Q (.ref h'.objs.size) { s with heap := h'.push { cls := .type "tuple", data := .seq acc }, toks := tk }) :
    wpAny (model prog w) A (call (.type "tuple") [.ref it]) Q E s := by
  refine callType_codes (Q₁ := fun obj s₁ => s₁.TypeIs obj "tuple" ∧ Q obj s₁) F.called_tuple (F.typeCall_tuple_1 _) F.entry_object_init
    (code_tuple_new_rt (A := A.in1) hh hit ht hne hn fun h' tk acc hk hacc => ⟨⟨_, Heap.get?_push_size _ rfl, rfl⟩, hQ h' tk acc hk hacc⟩) fun obj s₁ h₁ => ?_
  exact ⟨h₁.1, F.args_object_init_2 obj _, object_init_meets F.called_tuple.init.lookup F.called_tuple.made (by decide) prog w A.in1 _ s₁ ⟨h₁.1, rfl, h₁.2⟩⟩
end
end RT
namespace L2
open PySem PySem.Spec PyProof.Rows RT
def tTupRevT (K : PySem.W.Frag) (te : TE) : TE := fun σ H Q => te σ H fun v H1 => ∃ (a : Addr) (xs : List V), v = .ref a ∧ SqT K H1 a xs ∧ ∀ q, H1 q = none → Q (.ref q) (upd H1 q (.tup xs.reverse))
theorem pe_tupRevT {X : Cx} {e : Expr} {te : TE} {p p2 pos pos2 : Pos} (hc : X.calm = true) (hg : Gl X "tuple") (hm : X.mg "tuple" = none) (hg2 : Gl X "reversed") (hm2 : X.mg "reversed" = none) (he : PE X e te)
    (hs : starEach [e] X.env = (false, eval e X.env) :: starEach [] X.env := by rfl)
    (hs2 : starEach [.Call (.Name "reversed" p2) [e] [] pos2] X.env = (false, eval (.Call (.Name "reversed" p2) [e] [] pos2) X.env) :: starEach [] X.env := by rfl) :
    PE X (.Call (.Name "tuple" p) [.Call (.Name "reversed" p2) [e] [] pos2] [] pos) (tTupRevT X.K te) := by
  refine ⟨fun pins s σ H Q I h => ?_⟩
  refine Call_ (ld_blt I hg hm boot_tuple (PyProof.Rows.callWith_type1 (args_cons (Call_ (ld_blt I hg2 hm2 PyProof.Rows.boot_reversed (PyProof.Rows.callWith_type1 (args_cons (thn (he.run pins s σ H _ I h) fun u s1 ⟨v, H1, I1, r1, q1⟩ => args_nil ?_) hs) hs rfl))) hs2) hs2 rfl))
  obtain ⟨a, xs, ev, hq, q⟩ := q1
  subst ev
  obtain rfl : u = Value.ref a := r1
  obtain ⟨its, rv, p', hz⟩ := I1.tuple hq
  have hl := rv.length
  have hn : its.toArray.size ≤ sizeLine := by rw [List.size_toArray, ← rv.length]; exact hz
  have line := line63
  refine call_reversed_tup p' (fun A E Q k => len_tuple p' (by simp only [List.size_toArray] <;> omega) k) (args_nil ?_)
  have k0 : ∀ b o, s1.heap.get? b = some o → (s1.heap.push (rtObj a ((its.toArray.size : Int) - 1))).get? b = some o := fun b o e => Heap.get?_push_of_some _ e
  have I2 : Inv X pins σ H1 { s1 with heap := s1.heap.push (rtObj a ((its.toArray.size : Int) - 1)), toks := s1.toks + 1 + 1 } := I1.kept (t' := s1.toks + 1 + 1) k0
  obtain ⟨f0, f1, f2, f3, f4, f5⟩ := I1.fpOk (H' := H1) (b := s1.heap.objs.size) (Nat.le_refl _) (I1.hok.fresh (Nat.le_refl _))
  obtain ⟨ol, hol, qol⟩ := id p'
  have hne : a ≠ s1.heap.objs.size := Nat.ne_of_lt (Heap.lt_size hol)
  refine call_tuple_rt (s := { s1 with heap := s1.heap.push (rtObj a ((its.toArray.size : Int) - 1)), toks := s1.toks + 1 + 1 }) (I1.ok.hd hc) ⟨_, Heap.get?_push_size _ rfl, rfl, rfl⟩ ⟨ol, k0 _ _ hol, qol⟩ hne hn fun h' tk acc hk hi => ?_
  have I3 : Inv X pins σ H1 { s1 with heap := h', toks := tk } := I2.turned (t' := tk) (fun b o hb e => hk b o hb e) f0 f1 f3 f4 f5
  refine ⟨.ref h'.objs.size, upd H1 h'.objs.size (.tup xs.reverse), I3.laid (t' := tk) (fun c o e => Heap.get?_push_of_some _ e) (Nat.le_refl _) (show ObjOk X.prog X.w _ _ _ (.tup xs.reverse) from ⟨by rw [List.length_reverse]; exact hz, acc.toList, vals_rev rv hi, ?_⟩), rfl, q _ (I3.hok.fresh (Nat.le_refl _))⟩
  rw [Array.toArray_toList]
  exact IsTup.new _ _
end L2
namespace GL
open PySem PySem.Spec PyProof.Rows L2
theorem repL_rev {K : Fg} {S : Hp} {α : Type} [Py α] {vs : List V} {xs : List α} (h : RepL K S vs xs) : RepL K S vs.reverse xs.reverse := by
  induction xs generalizing vs with
  | nil =>
    cases vs with
    | nil => exact h
    | cons v vs => exact h.elim
  | cons x xs ih =>
    cases vs with
    | nil => exact h.elim
    | cons v vs =>
      rw [List.reverse_cons, List.reverse_cons]
      exact (ih h.2).app ⟨h.1, True.intro⟩
theorem ev_revT {K : Fg} {G G1 : List Sl} {ta : TE} {α : Type} [Py α] {x : Tp α} (ha : EvX K ta G x G1) : EvX K (tTupRevT K ta) G (Tp.mk x.l.reverse) G1 := fun B S0 S σ H F k Q q =>
  ha B S0 S σ H F k _ fun v S1 H1 e1 k1 r1 => by
    obtain ⟨p, vs, rfl, hp, hr⟩ := r1
    refine ⟨p, vs, rfl, seqT k1.sub hp, fun l hl => ?_⟩
    have e5 := same_new (o := .tup vs.reverse) (k1.free hl).1
    exact q _ _ _ (e1.trans e5) (k1.new hl) ⟨l, _, rfl, SqT.of upd_same, (repL_rev hr).mono e5⟩
end GL
namespace GL
open PySem PySem.Spec PyProof.Rows L2
structure BentOk (d : Dat) : Prop where
  sz : DSz 8 900000 d
  le : ∀ x ∈ d.items, x.items.length ≤ 1000
theorem wt_items : ∀ {l : List Dat}, l.length ≤ PyData.weightAll (pdL l) ∧ ∀ x ∈ l, x.pd.weight ≤ PyData.weightAll (pdL l)
  | [] => ⟨Nat.le_refl _, fun x hx => nomatch hx⟩
  | y :: l => by
    obtain ⟨h1, h2⟩ := wt_items (l := l)
    rw [pdL, PyData.weightAll, List.length_cons]
    refine ⟨by omega, fun x hx => ?_⟩
    rcases List.mem_cons.mp hx with e | e
    · rw [e]; omega
    · have := h2 x e; omega
theorem wt_of {d : Dat} : d.items.length ≤ d.pd.weight ∧ ∀ x ∈ d.items, x.pd.weight ≤ d.pd.weight := by
  cases d with
  | tup l => rw [Dat.pd, PyData.weight]; exact wt_items
  | lst l => rw [Dat.pd, PyData.weight]; exact wt_items
  | _ => exact ⟨Nat.zero_le _, fun x hx => nomatch hx⟩
theorem sh_items : ∀ {l : List Dat}, PyData.canLayAll0 (pdL l) = true → ∀ x ∈ l, x.pd.canLay0 = true ∧ x.pd.depth ≤ PyData.depthAll (pdL l)
  | [], _ => fun x hx => nomatch hx
  | y :: l, h => fun x hx => by
    rw [pdL, PyData.canLayAll0, Bool.and_eq_true] at h
    rw [pdL]
    simp only [PyData.depthAll]
    rcases List.mem_cons.mp hx with e | e
    · rw [e]; exact ⟨h.1, by omega⟩
    · have := sh_items h.2 x e
      exact ⟨this.1, by omega⟩
theorem sh_of {d : Dat} (h : d.pd.canLay0 = true) : ∀ x ∈ d.items, x.pd.canLay0 = true ∧ x.pd.depth ≤ d.pd.depth := by
  cases d with
  | tup l =>
    rw [Dat.pd, PyData.canLay0] at h
    intro x hx
    have := sh_items h x hx
    rw [Dat.pd, PyData.depth]
    exact ⟨this.1, Nat.le_succ_of_le this.2⟩
  | lst l =>
    rw [Dat.pd, PyData.canLay0] at h
    intro x hx
    have := sh_items h x hx
    rw [Dat.pd, PyData.depth]
    exact ⟨this.1, Nat.le_succ_of_le this.2⟩
  | _ => exact fun x hx => nomatch hx
theorem BentOk.th {d : Dat} (h : BentOk d) : ThOk d := ⟨fun {x} hx => by
    obtain ⟨h1, h2⟩ := sh_of h.sz.lay x hx
    have := h.sz.dep
    unfold SeqAt.shaped
    rw [h1, decide_eq_true (by omega)]
    rfl, h.le, fun x hx y hy z hz => by
    have a1 := (wt_of (d := d)).2 x hx
    have a2 := (wt_of (d := x)).2 y hy
    have a3 := (wt_of (d := y)).2 z hz
    have a4 := (wt_of (d := z)).1
    have a5 := h.sz.wei
    omega⟩
theorem BentOk.sh {d : Dat} (h : BentOk d) : ShOk d := h.sz.ok (by decide) (by decide)
def TwT (b : Book) (d : Dat) : Prop := ∃ (w : Str) (xs : List Dat), d = .tup [.str w, .lst xs] ∧ (PyData.str w).canLay0 = true ∧ w.cps.size ≤ 10 ∧ xs.length ≤ 121 ∧ ((∀ x ∈ xs, ∃ s : RSt, x = ToD.dat s ∧ StOk b s) ∨ ∀ x ∈ xs, ∃ n : Int, x = .int n ∧ 0 ≤ n ∧ n < 1000)
theorem EvX.asT2 {K : Fg} {G G1 : List Sl} {te : TE} {d : Dat} (h : EvX K te G d G1) (hd : d.isT = true ∧ d.items.length = 2) : EvX K te G ((ix d.items 0, ix d.items 1) : Dat × Dat) G1 := by
  cases d with
  | tup l =>
    obtain ⟨_, h3⟩ := hd
    match l, h3 with
    | [a, b], _ =>
      intro B S0 S σ H F k Q q
      refine h B S0 S σ H F k Q fun v S' H' e k' r' => q v S' H' e k' ?_
      cases r' with
      | tup h1 h2 =>
        cases h2 with
        | cons ra h2 =>
          cases h2 with
          | cons rb h2 =>
            cases h2
            exact ⟨_, _, _, rfl, h1, ra, rb⟩
  | _ => exact absurd hd.1 (by intro z; cases z)
end GL
namespace GL
open PySem PySem.Spec PyProof.Rows L2
theorem cut_takeX {δ : Type} (xs : List δ) {m : Int} (h : 0 ≤ m) : cutL xs none (some m) = xs.take m.toNat := by
  unfold cutL HT.sIx
  simp only [List.drop_zero, Nat.sub_zero]
  by_cases q : m ≤ xs.length
  · congr 1
    split <;> omega
  · have e1 : xs.take m.toNat = xs := List.take_of_length_le (by omega)
    rw [e1]
    refine List.take_of_length_le ?_
    split <;> omega
theorem cut_dropX {δ : Type} (xs : List δ) {m : Int} (h : 0 ≤ m) : cutL xs (some m) none = xs.drop m.toNat := cut_drop h
theorem dat_lst (l : List Dat) : ToD.dat l = Dat.lst l := by
  show Dat.lst (l.map ToD.dat) = _
  congr 1
  exact List.map_id l
theorem dat_tup (l : List Dat) : ToD.dat (⟨l⟩ : Tp Dat) = Dat.tup l := by
  show Dat.tup (l.map ToD.dat) = _
  congr 1
  exact List.map_id l
theorem dsz_itl {k w : Nat} {d : Dat} (h : DSz k w d) : d.items.length ≤ w := Nat.le_trans (wt_of (d := d)).1 h.wei
structure Thg (d : Dat) : Prop where
  sz : DSz 6 660000 d
  le : d.items.length ≤ 1000
theorem Thg.small {d : Dat} (h : DSz 6 900 d) : Thg d := ⟨h.up (Nat.le_refl _) (by decide), Nat.le_trans (dsz_itl h) (by decide)⟩
theorem Thg.lst {l : List Dat} (hl : l.length ≤ 130) (hz : ∀ x ∈ l, DSz 5 5000 x) : Thg (ToD.dat l) := by
  rw [dat_lst]
  exact ⟨dsz_lst hz (by omega), by show l.length ≤ 1000; omega⟩
theorem Thg.tup {l : List Dat} (hl : l.length ≤ 130) (hz : ∀ x ∈ l, DSz 5 5000 x) : Thg (ToD.dat (⟨l⟩ : Tp Dat)) := by
  rw [dat_tup]
  exact ⟨dsz_tup hz (by omega), by show l.length ≤ 1000; omega⟩
theorem dsz_mk {k w : Nat} {l : List Dat} (w' : Nat) (h : ∀ x ∈ l, DSz k w x) (hw : PyData.weightAll (pdL l) ≤ w') : DSz (k + 1) w' (.tup l) ∧ DSz (k + 1) w' (.lst l) := by
  have a := dsz_tup (w' := l.length * (w + 1)) h (Nat.le_refl _)
  have b := dsz_lst (w' := l.length * (w + 1)) h (Nat.le_refl _)
  exact ⟨⟨a.lay, a.dep, a.sho, a.ish, by rw [Dat.pd, PyData.weight]; exact hw⟩, ⟨b.lay, b.dep, b.sho, b.ish, by rw [Dat.pd, PyData.weight]; exact hw⟩⟩
theorem Thg.all {l : List Dat} (h : ∀ x ∈ l, Thg x) (hw : PyData.weightAll (pdL l) ≤ 900000) : BentOk (.tup l) ∧ BentOk (.lst l) := by
  obtain ⟨a, b⟩ := dsz_mk 900000 (fun x hx => (h x hx).sz) hw
  exact ⟨⟨a.up (by decide) (Nat.le_refl _), fun x hx => (h x hx).le⟩, ⟨b.up (by decide) (Nat.le_refl _), fun x hx => (h x hx).le⟩⟩
theorem all_two {p : Dat → Prop} {a b : Dat} (ha : p a) (hb : p b) : ∀ x ∈ [a, b], p x := fun x hx => by
  rcases List.mem_cons.mp hx with e | e
  · rw [e]; exact ha
  · rw [List.mem_singleton.mp e]; exact hb
theorem Thg.two {w t : Dat} (hw : DSz 6 900 w) (ht : Thg t) : BentOk (.tup [w, t]) ∧ BentOk (.lst [w, t]) :=
  Thg.all (all_two (.small hw) ht) (by
    have h1 := hw.wei
    have h2 := ht.sz.wei
    rw [pdL, pdL, pdL, PyData.weightAll, PyData.weightAll, PyData.weightAll]
    omega)
theorem Thg.three {w t u : Dat} (hw : DSz 6 900 w) (ht : Thg t) (hu : DSz 6 900 u) : BentOk (.tup [w, t, u]) :=
  (Thg.all (fun x hx => by
    rcases List.mem_cons.mp hx with e | e
    · rw [e]; exact .small hw
    · exact all_two (p := Thg) ht (.small hu) x e) (by
    have h1 := hw.wei
    have h2 := ht.sz.wei
    have h3 := hu.wei
    rw [pdL, pdL, pdL, pdL, PyData.weightAll, PyData.weightAll, PyData.weightAll, PyData.weightAll]
    omega)).1
theorem Thg.one {w : Dat} (hw : DSz 6 900 w) : BentOk (.tup [w]) :=
  (Thg.all (fun x hx => by rw [List.mem_singleton.mp hx]; exact .small hw) (by
    have h1 := hw.wei
    rw [pdL, pdL, PyData.weightAll, PyData.weightAll]
    omega)).1
theorem bent_small {d : Dat} (h : DSz 6 900 d) : BentOk d := ⟨h.up (by decide) (by decide), fun x hx => by
  have h1 := (wt_of (d := d)).2 x hx
  have h2 := (wt_of (d := x)).1
  have h3 := h.wei
  omega⟩
theorem bent_ix {l : List Dat} {n : Int} (h : ∀ y ∈ l, BentOk y) : BentOk (ix l n) := by
  unfold ix
  rw [List.getD_eq_getElem?_getD]
  cases e : l[n.toNat]? with
  | none => exact bent_small dsz_non
  | some x => exact h x (List.mem_of_getElem? e)
theorem bent_nil : ∀ y ∈ ([] : List Dat), BentOk y := fun x hx => nomatch hx
theorem bent_cons {y : Dat} {l : List Dat} (h : BentOk y) (hl : ∀ y ∈ l, BentOk y) : ∀ x ∈ y :: l, BentOk x := fun x hx => by
  rcases List.mem_cons.mp hx with e | e
  · rw [e]; exact h
  · exact hl x e
theorem bent_wl {w : Dat} {l : List Dat} (hw : DSz 6 900 w) (hl : l.length ≤ 130) (hz : ∀ x ∈ l, DSz 5 5000 x) : BentOk (ToD.dat (⟨[w, ToD.dat l]⟩ : Tp Dat)) := by
  rw [dat_tup]
  exact (Thg.two hw (.lst hl hz)).1
structure Lsz (n : Nat) (l : List Dat) : Prop where
  le : l.length ≤ n
  z : ∀ x ∈ l, DSz 5 5000 x
theorem Lsz.app {n m : Nat} {l l' : List Dat} (h : Lsz n l) (h' : Lsz m l') : Lsz (n + m) (l ++ l') := ⟨by rw [List.length_append]; exact Nat.add_le_add h.le h'.le, dsz_app h.z h'.z⟩
theorem Lsz.to {n : Nat} {l : List Dat} {a : Int} (h : Lsz n l) (ha : 0 ≤ a) : Lsz (min a.toNat n) (cutL l none (some a)) := by
  rw [cut_takeX l ha]
  exact ⟨by rw [List.length_take]; have := h.le; omega, fun x hx => h.z x (List.mem_of_mem_take hx)⟩
theorem Lsz.from {n : Nat} {l : List Dat} {a : Int} (h : Lsz n l) (ha : 0 ≤ a) : Lsz (n - a.toNat) (cutL l (some a) none) := by
  rw [cut_dropX l ha]
  exact ⟨by rw [List.length_drop]; have := h.le; omega, fun x hx => h.z x (List.mem_of_mem_drop hx)⟩
theorem Lsz.one {x : Dat} (h : DSz 5 5000 x) : Lsz 1 [x] := ⟨Nat.le_refl _, fun y hy => by rw [List.mem_singleton.mp hy]; exact h⟩
theorem Lsz.up {n m : Nat} {l : List Dat} (h : Lsz n l) (e : n ≤ m) : Lsz m l := ⟨Nat.le_trans h.le e, h.z⟩
theorem Lsz.bent {n : Nat} {w : Dat} {l : List Dat} (h : Lsz n l) (hw : DSz 6 900 w) (hn : n ≤ 130) : BentOk (ToD.dat (⟨[w, ToD.dat l]⟩ : Tp Dat)) := bent_wl hw (Nat.le_trans h.le hn) h.z
structure TwP (b : Book) (w t : Dat) : Prop where
  wd : DSz 6 900 w
  wsh : SeqAt.shaped w.pd = true
  l : t.isL = true
  z : Lsz 121 t.items
  st : ∀ x ∈ t.items, x.isT = true → ∃ s : RSt, x = ToD.dat s ∧ StOk b s
theorem isL_lst {d : Dat} (h : d.isL = true) : d = .lst d.items := by
  cases d <;> first | rfl | cases h
theorem TwP.th {b : Book} {w t : Dat} (h : TwP b w t) : Thg t := by
  rw [isL_lst h.l, ← dat_lst]
  exact .lst (Nat.le_trans h.z.le (by decide)) h.z.z
theorem TwP.stOk {b : Book} {w t x : Dat} (h : TwP b w t) (hx : x ∈ t.items) (ht : x.isT = true) : StOk b (stOf x) := by
  obtain ⟨s, rfl, hs⟩ := h.st x hx ht
  rw [stOf_dat]
  exact hs
theorem TwP.ex {b : Book} {w t x : Dat} (h : TwP b w t) (hx : x ∈ t.items) (ht : x.isT = true) : ∃ s : RSt, x = ToD.dat s := by
  obtain ⟨s, e, _⟩ := h.st x hx ht
  exact ⟨s, e⟩
theorem Lsz.cat {n m : Nat} {l l' : List Dat} (h : Lsz n l) (h' : Lsz m l') (e : n + m ≤ 1000) : l.length + l'.length ≤ sizeLine := le_line (by have := h.le; have := h'.le; omega)
theorem TwT.two {b : Book} {d : Dat} (h : TwT b d) : d.isT = true ∧ d.items.length = 2 := by
  obtain ⟨w, xs, rfl, _⟩ := h
  exact ⟨rfl, rfl⟩
theorem TwT.parts {b : Book} {d : Dat} (hb : BookOk b) (h : TwT b d) : TwP b (ix d.items 0) (ix d.items 1) := by
  obtain ⟨w, xs, rfl, hw, hl, hx, hc⟩ := h
  refine ⟨dsz_str hw (by omega), ?_, rfl, ⟨hx, fun x hm => ?_⟩, fun x hm ht => ?_⟩
  · show SeqAt.shaped (PyData.str w) = true
    unfold SeqAt.shaped
    rw [hw]
    rfl
  · rcases hc with q | q
    · obtain ⟨s, rfl, hs⟩ := q x hm
      exact dsz_st (k := 3) (parts_ok hb hs)
    · obtain ⟨n, rfl, h0, h1⟩ := q x hm
      exact dsz_int (by omega) (by decide)
  · rcases hc with q | q
    · exact q x hm
    · obtain ⟨n, rfl, h0, h1⟩ := q x hm
      cases ht
theorem lsz_rev {n : Nat} {l : List Dat} (h : Lsz n l) : Lsz n l.reverse := ⟨by rw [List.length_reverse]; exact h.le, fun x hx => h.z x (List.mem_reverse.mp hx)⟩
end GL
namespace GL
open PySem PySem.Spec PyProof.Rows L2
theorem along_btw {b : Book} {l : List RSt} : ∀ {xs : List Dat} {acc : List RSt}, forL (alongB b) some xs acc = some l → ∀ x ∈ xs, btwD x 0 ((b.d.l.length : Int) - 1) = true
  | [], _, _ => fun x hx => nomatch hx
  | x :: xs, acc, h => by
    unfold forL at h
    have e : alongB b acc x = if stepOk b (lastI acc) x = true then .nx (acc ++ [comesM (lastI acc) (ix b.d.l x.toI)]) else .rt none := rfl
    by_cases c : stepOk b (lastI acc) x = true
    · rw [e, if_pos c] at h
      intro y hy
      rcases List.mem_cons.mp hy with q | q
      · rw [q]
        unfold stepOk at c
        exact (Bool.and_eq_true _ _ ▸ c : _ ∧ _).1
      · exact along_btw h y q
    · rw [e, if_neg c] at h
      cases h
theorem along_int {b : Book} {xs : List Dat} {l : List RSt} (hb : BookOk b) (h : alongM b xs = some l) : ∀ x ∈ xs, ∃ n : Int, x = .int n ∧ 0 ≤ n ∧ n < 1000 := fun x hx => by
  unfold alongM at h
  obtain ⟨h1, h2, h3⟩ := btw_ib.mp (along_btw h x hx)
  have := hb.many
  exact ⟨x.toI, isInt_eq h1, h2, by omega⟩
theorem tw_str {w : Str} (h : (PyData.str w).canLay0 = true ∧ w.cps.size ≤ 10) : DSz 6 900 (.str w) := dsz_str h.1 (by omega)
theorem tw_word : ((PyData.str wTwo).canLay0 = true ∧ wTwo.cps.size ≤ 10) ∧ (PyData.str wNever).canLay0 = true ∧ wNever.cps.size ≤ 10 := by decide +kernel
theorem tw_never {b : Book} {more : List RSt} (h : ∀ s ∈ more, StOk b s) (hl : more.length ≤ 121) : TwT b (.tup [.str wNever, .lst (more.map ToD.dat)]) :=
  ⟨wNever, _, rfl, tw_word.2.1, tw_word.2.2, by rw [List.length_map]; exact hl, .inl fun x hx => by
    obtain ⟨s, hs, rfl⟩ := List.mem_map.mp hx
    exact ⟨s, rfl, h s hs⟩⟩
theorem tw_two {b : Book} {walk : List Int} (h : ∀ x ∈ walk, 0 ≤ x ∧ x < 1000) (hl : walk.length ≤ 121) : TwT b (.tup [.str wTwo, .lst (walk.map Dat.int)]) :=
  ⟨wTwo, _, rfl, tw_word.1.1, tw_word.1.2, by rw [List.length_map]; exact hl, .inr fun x hx => by
    obtain ⟨s, hs, rfl⟩ := List.mem_map.mp hx
    exact ⟨s, rfl, h s hs⟩⟩
theorem TwT.bent {b : Book} {d : Dat} (hb : BookOk b) (h : TwT b d) : BentOk d := by
  have hp := h.parts hb
  obtain ⟨w, xs, rfl, _⟩ := h
  exact (Thg.two hp.wd hp.th).1
theorem tw_ix {b : Book} {l : List Dat} {n : Int} (h : ∀ y ∈ l, TwT b y) (hn : 0 ≤ n ∧ n < (l.length : Int)) : TwT b (ix l n) := h _ (ix_mem hn.1 hn.2)
theorem tw_isS : isS (.str wTwo) (Str.ofString "two") = true ∧ isS (.str wNever) (Str.ofString "two") = false ∧ isS (.str wNever) (Str.ofString "never") = true := by decide +kernel
theorem tw_yes {b : Book} {d : Dat} {due : Bool} (hr : RightP b due d) : tworD b d = true := by
  obtain ⟨w, x, rfl, h1, h2⟩ := hr.ex
  cases due with
  | true =>
    obtain ⟨rfl, _, l, e1, e2⟩ := h1 rfl
    have e : some (lastI l) = lastB b (ix (Dat.tup [.str wTwo, .lst x]).items 1) := by
      show _ = lastB b (.lst x)
      unfold lastB
      rw [show (Dat.lst x).isL = true from rfl, if_pos rfl, show (Dat.lst x).items = x from rfl, e1]
      rfl
    rw [← two_ret1 (b := b) (d := .tup [.str wTwo, .lst x]) rfl tw_isS.1 e]
    show (true && decide (((rnsM b (lastI l)).length : Int) = 2)) = true
    rw [decide_eq_true (by omega)]
    rfl
  | false =>
    obtain ⟨rfl, _, c, hn⟩ := h2 rfl
    have hc : clD b firstS (.lst x) = true := by unfold clD; exact dec_t c
    rw [← two_ret3 (b := b) (d := .tup [.str wNever, .lst x]) rfl tw_isS.2.1 (by
      show (!isS (.str wNever) (Str.ofString "never") || !clD b firstS (.lst x)) = false
      rw [hc, tw_isS.2.2]
      rfl)]
    exact all_id.mpr fun y hy => decide_eq_true (by
      have h3 := hn y hy
      have h4 := rns_le (b := b) (s := stOf y)
      omega)
theorem two_tw {b : Book} {n : Nat} (hb : BookOk b) (h : Term b firstS n) (hn : n ≤ 60) : ∃ y, twoX b 200 = .inr y ∧ TwT b (ToD.dat y) ∧ tworD b (ToD.dat y) = true := by
  obtain ⟨y0, ey0, ry0, _⟩ := two_right (limit := 200) hb (by decide) h (by omega) (by decide)
  refine ⟨y0, ey0, ?_, tw_yes ry0⟩
  rcases rch_term (limit := 200) (by decide) h with ⟨z, _⟩ | ⟨_, e⟩
  · omega
  have lr : (Ur b firstS n).length = n := by rw [Ur_len]; exact h.e
  have ey := two_inr e (rfl : twoR b (Ur b firstS n) = _)
  rw [ey0] at ey
  injection ey with ey
  subst ey
  unfold twoR
  rcases two_find (b := b) (rows := Ur b firstS n) (k := fun _ => (Str.ofString "never", .inr ((Ur b firstS n).map fun row => row.a))) (enumI (Ur b firstS n)) with ⟨x, hx, h1, h2⟩ | ⟨h1, h2⟩
  · rw [h2]
    unfold enumI at hx
    obtain ⟨⟨y, k⟩, hy, rfl⟩ := List.mem_map.mp hx
    have g2 := List.mk_mem_zipIdx_iff_getElem?.mp hy
    have g3 := (List.getElem?_eq_some_iff.mp g2).1
    have hkb : (0 : Int) ≤ (k : Int) ∧ (k : Int) < ((Ur b firstS n).length : Int) := by omega
    have hsl := stepsM_len hkb
    obtain ⟨l, e1, e2⟩ := stepsM_path (Ur_ok n) hkb
    refine tw_two (fun x hx => ?_) (by dsimp only; omega)
    obtain ⟨m, em, h0, h1⟩ := along_int hb e1 (.int x) (List.mem_map_of_mem hx)
    injection em with em
    subst em
    exact ⟨h0, h1⟩
  · rw [h2]
    have em : ((Ur b firstS n).map fun row => row.a) = Us b firstS n := Ur_map n
    refine tw_never (fun s hs => ?_) ?_
    · rw [em] at hs
      exact Us_ok hb (first_ok hb) n s hs
    · rw [List.length_map]
      omega
theorem MoreOk.tw {b : Book} {fd : List RSt} {n : Nat} (h : MoreOk b fd n) (hb : BookOk b) (hl : fd.length ≤ 60) : ∃ y, twoX b 200 = .inr y ∧ TwT b (ToD.dat y) ∧ tworD b (ToD.dat y) = true := by
  rcases h.or_ with q | q
  · have e := q.e
    have ef := h.ef
    exact two_tw hb q (by rw [← ef] at e; omega)
  · omega
@[irreducible] def smallB (back : Rule) : Book := ⟨⟨[true, false]⟩, ⟨[false, true]⟩, 1, ⟨[⟨0, 0, none, 1, some 0⟩, ⟨1, 0, some 0, 1, none⟩, back]⟩⟩
theorem small35_ok : BookOk (smallB ⟨1, 0, none, 0, some 0⟩) := by decide +kernel
theorem small35_len : (allM (smallB ⟨1, 0, none, 0, some 0⟩) 60).length ≤ 60 := by decide +kernel
def greatR : List Rule := (rng 0 24).map (fun k => (⟨0, k, none, k + 1, none⟩ : Rule)) ++ (rng 0 24).map (fun k => (⟨1, k, none, k + 1, none⟩ : Rule))
@[irreducible] def greatB : Book := ⟨⟨[true] ++ List.replicate 24 false⟩, ⟨List.replicate 25 false⟩, 0, ⟨greatR⟩⟩
@[irreducible] def greatS : List RSt := (rng 0 625).map fun at_ => ⟨at_ / 25, at_ % 25, ⟨[]⟩, ⟨[]⟩⟩
theorem great_ok : BookOk greatB := by decide +kernel
theorem great_in : (greatS.all fun s => decide ((0 ≤ s.a ∧ s.a < 25) ∧ (0 ≤ s.b ∧ s.b < 25) ∧ s.c.l = [] ∧ s.d.l = [])) = true := by decide +kernel
theorem great_ab : greatB.a.l.length = 25 ∧ greatB.b.l.length = 25 := by decide +kernel
theorem great_nd : greatS.Nodup := by
  unfold greatS
  refine List.Pairwise.map _ (fun a b h e => ?_) (rng_sorted 0 625)
  injection e with e1 e2
  omega
theorem great_mem {a b : Int} (ha : 0 ≤ a ∧ a < 25) (hb : 0 ≤ b ∧ b < 25) : (⟨a, b, ⟨[]⟩, ⟨[]⟩⟩ : RSt) ∈ greatS := by
  unfold greatS
  refine List.mem_map.mpr ⟨a * 25 + b, mem_rng.mpr (by omega), ?_⟩
  rw [show (a * 25 + b) / 25 = a from by omega, show (a * 25 + b) % 25 = b from by omega]
theorem great_first : decide (firstS ∈ greatS) = true := by decide +kernel
theorem great_two : (greatS.all fun s => decide ((rnsM greatB s).length < 2)) = true := by decide +kernel
theorem great_len : greatS.length = 625 := by decide +kernel
theorem great_out : decide ((⟨23, 24, ⟨[]⟩, ⟨[]⟩⟩ : RSt) ∈ greatS.dropLast ∧ (⟨0, 23, none, 24, none⟩ : Rule) ∈ greatB.d.l ∧ canM ⟨23, 24, ⟨[]⟩, ⟨[]⟩⟩ ⟨0, 23, none, 24, none⟩ = true ∧ ¬ comesM ⟨23, 24, ⟨[]⟩, ⟨[]⟩⟩ ⟨0, 23, none, 24, none⟩ ∈ greatS.dropLast) = true := by decide +kernel
theorem great_st {s : RSt} (h : s ∈ greatS) : StOk greatB s ∧ s.c.l = [] ∧ s.d.l = [] ∧ (0 ≤ s.a ∧ s.a < 25) ∧ 0 ≤ s.b ∧ s.b < 25 := by
  obtain ⟨h1, h2, h3, h4⟩ := of_decide_eq_true (List.all_eq_true.mp great_in s h)
  obtain ⟨ea, eb⟩ := great_ab
  refine ⟨⟨by rw [ea]; exact h1, by rw [eb]; exact h2, ?_, ?_⟩, h3, h4, h1, h2⟩
  · rw [h3]; exact ⟨List.Pairwise.nil, fun x hx => nomatch hx⟩
  · rw [h4]; exact ⟨List.Pairwise.nil, fun x hx => nomatch hx⟩
theorem great_cl {s : RSt} {r : Rule} (hs : s ∈ greatS) (hr : r ∈ greatB.d.l) : comesM s r ∈ greatS := by
  obtain ⟨_, h1, h2, h3, h4⟩ := great_st hs
  obtain ⟨a, b, ⟨c⟩, ⟨d⟩⟩ := s
  dsimp only at h1 h2 h3 h4
  subst h1 h2
  have e : greatB.d.l = greatR := by unfold greatB; rfl
  rw [e] at hr
  unfold greatR at hr
  have w : withLet [] none = [] := by unfold withLet; rfl
  rcases List.mem_append.mp hr with q | q
  · obtain ⟨k, hk, rfl⟩ := List.mem_map.mp q
    have hk := mem_rng.mp hk
    unfold comesM
    rw [if_pos rfl, w]
    exact great_mem (a := k + 1) (by omega) h4
  · obtain ⟨k, hk, rfl⟩ := List.mem_map.mp q
    have hk := mem_rng.mp hk
    unfold comesM
    rw [if_neg (by show ¬ (1 : Int) = 0; decide), w]
    exact great_mem (b := k + 1) h3 (by omega)
theorem great_clP : ClP greatB firstS (.lst (greatS.map ToD.dat)) := ⟨greatS, rfl, fun s hs => (great_st hs).1, great_nd, of_decide_eq_true great_first, fun s hs r hr hc => great_cl hs hr⟩
theorem map_dat_inj : ∀ {l l' : List RSt}, l.map (ToD.dat : RSt → Dat) = l'.map ToD.dat → l = l'
  | [], [], _ => rfl
  | [], _ :: _, h => nomatch h
  | _ :: _, [], h => nomatch h
  | x :: l, y :: l', h => by
    rw [List.map_cons, List.map_cons] at h
    injection h with h1 h2
    rw [dat_injS h1, map_dat_inj h2]
theorem great_noP : ¬ ClP greatB firstS (.lst (greatS.dropLast.map ToD.dat)) := fun ⟨ss, e, _, _, _, h⟩ => by
  injection e with e
  have e := map_dat_inj e
  subst e
  obtain ⟨h1, h2, h3, h4⟩ := of_decide_eq_true great_out
  exact h4 (h _ h1 _ h2 h3)
theorem dsz_bare {s : RSt} (h : s.c.l = [] ∧ s.d.l = [] ∧ (0 ≤ s.a ∧ s.a < 25) ∧ 0 ≤ s.b ∧ s.b < 25) {k : Nat} : DSz (k + 2) 164 (ToD.dat s) := by
  obtain ⟨a, b, ⟨c⟩, ⟨d⟩⟩ := s
  obtain ⟨h1, h2, h3, h4⟩ := h
  dsimp only at h1 h2 h3 h4
  subst h1 h2
  have ha : a.natAbs < 10 ^ 12 := by omega
  have hb : b.natAbs < 10 ^ 12 := by omega
  exact dsz_tup (w := 40) (dsz_cons (dsz_int ha (Nat.le_refl _)) (dsz_cons (dsz_int hb (Nat.le_refl _)) (dsz_cons ((dsz_tup (k := k) (w := 0) dsz_nil (Nat.zero_le _))) (dsz_cons (dsz_tup (k := k) (w := 0) dsz_nil (Nat.zero_le _)) dsz_nil)))) (Nat.le_of_ble_eq_true rfl)
theorem great_bent {l : List RSt} (h : ∀ s ∈ l, s ∈ greatS) (hl : l.length ≤ 625) : BentOk (.tup [.str wNever, .lst (l.map ToD.dat)]) := by
  have hz : DSz 6 660000 (.lst (l.map (ToD.dat : RSt → Dat))) := dsz_lst (k := 5) (w := 164) (fun x hx => by
    obtain ⟨s, hs, rfl⟩ := List.mem_map.mp hx
    exact dsz_bare (great_st (h s hs)).2) (by rw [List.length_map]; omega)
  exact (Thg.two (tw_str tw_word.2) ⟨hz, by show (l.map _).length ≤ 1000; rw [List.length_map]; omega⟩).1
theorem great_yes : tworD greatB (.tup [.str wNever, .lst (greatS.map ToD.dat)]) = true :=
  tw_yes (due := false) ⟨wNever, _, rfl, fun z => (by cases z), fun _ => ⟨rfl, by rw [List.length_map, great_len]; decide, great_clP, fun y hy => by
    obtain ⟨s, hs, rfl⟩ := List.mem_map.mp hy
    rw [stOf_dat]
    have := of_decide_eq_true (List.all_eq_true.mp great_two s hs)
    omega⟩⟩
theorem great_no : tworD greatB (.tup [.str wNever, .lst (greatS.dropLast.map ToD.dat)]) = false := by
  refine (two_ret2 (b := greatB) (d := .tup [.str wNever, .lst (greatS.dropLast.map ToD.dat)]) rfl tw_isS.2.1 ?_).symm
  have hc : clD greatB firstS (.lst (greatS.dropLast.map ToD.dat)) = false := by unfold clD; exact dec_f great_noP
  show (!isS (.str wNever) (Str.ofString "never") || !clD greatB firstS (.lst (greatS.dropLast.map ToD.dat))) = true
  rw [hc]
  exact Bool.or_true _
theorem cut_m1 {α : Type} (xs : List α) : cutL xs none (some (-1)) = xs.dropLast := by
  unfold cutL HT.sIx
  simp only [List.drop_zero, Nat.sub_zero]
  rw [List.dropLast_eq_take]
  congr 1
  simp
  try omega
theorem odd_all {l : List Dat} {P : Dat → Prop} {x : Dat} (h : ∀ y ∈ l, P y) (q : x ∈ l) : P x := h x q
theorem odd_nil {P : Dat → Prop} : ∀ y ∈ ([] : List Dat), P y := fun y h => nomatch h
theorem odd_cons {P : Dat → Prop} {y : Dat} {l : List Dat} (h : P y) (hl : ∀ y ∈ l, P y) : ∀ x ∈ y :: l, P x := fun x hx => by
  rcases List.mem_cons.mp hx with e | e
  · rw [e]; exact h
  · exact hl x e
theorem nv_dat (l : List RSt) : (ToD.dat (⟨[ToD.dat wNever, ToD.dat l]⟩ : Tp Dat) : Dat) = .tup [.str wNever, .lst (l.map ToD.dat)] := dat_tup _
theorem great_th1 : ThOk (ToD.dat (⟨[ToD.dat wNever, ToD.dat greatS]⟩ : Tp Dat)) := by
  rw [nv_dat]
  exact (great_bent (fun s h => h) (by rw [great_len]; decide)).th
theorem great_th2 : ThOk (ToD.dat (⟨[ToD.dat wNever, ToD.dat (cutL greatS none (some (-1)))]⟩ : Tp Dat)) := by
  rw [nv_dat, cut_m1]
  exact (great_bent (fun s h => List.dropLast_subset _ h) (by rw [List.length_dropLast, great_len]; decide)).th
theorem great_y : tworD greatB (ToD.dat (⟨[ToD.dat wNever, ToD.dat greatS]⟩ : Tp Dat)) = true := by rw [nv_dat]; exact great_yes
theorem great_n : tworD greatB (ToD.dat (⟨[ToD.dat wNever, ToD.dat (cutL greatS none (some (-1)))]⟩ : Tp Dat)) = false := by rw [nv_dat, cut_m1]; exact great_no
theorem cut9 {l : List Int} {n : Nat} (h : l.length = n) {a : Nat} : (cutL l (some (a : Int)) none).length = n - a := by rw [cut_dropX l (by omega), List.length_drop, h]; omega
end GL
namespace L35
open PySem PySem.Spec PyProof.Rows L2 GL
def topS (i : Nat) : Stmt := PySem.Challenge.pw_warmove_k35_never_and_two_looked_at.main.body.getD i (.Pass ⟨0, 0, 0, 0⟩)
abbrev s_is_below : Stmt := topS 5
abbrev s_can_do : Stmt := topS 6
abbrev s_with_letter : Stmt := topS 7
abbrev s_comes_of : Stmt := topS 8
abbrev s_states_along : Stmt := topS 9
abbrev s_runners : Stmt := topS 10
abbrev s_reached : Stmt := topS 11
abbrev s_steps_to : Stmt := topS 12
abbrev s_two_run : Stmt := topS 13
abbrev s_are_letters : Stmt := topS 14
abbrev s_is_state : Stmt := topS 15
abbrev s_are_closed : Stmt := topS 16
abbrev s_last_behind : Stmt := topS 17
abbrev s_is_two_run : Stmt := topS 18
abbrev s__law_stir : Stmt := topS 20
abbrev s__law_some : Stmt := topS 21
abbrev s__law_cell : Stmt := topS 22
abbrev s__law_chain : Stmt := topS 23
abbrev s__law_rule : Stmt := topS 24
abbrev s__law_book : Stmt := topS 25
abbrev s__law_can : Stmt := topS 26
abbrev s__law_comes : Stmt := topS 27
abbrev s__law_running : Stmt := topS 28
abbrev s__law_all : Stmt := topS 29
abbrev s__law_along : Stmt := topS 30
abbrev s__law_walk : Stmt := topS 31
abbrev s__law_whole : Stmt := topS 32
abbrev s__law_is_letters : Stmt := topS 33
abbrev s__law_is_state : Stmt := topS 34
abbrev s__law_closed : Stmt := topS 35
abbrev s__law_due : Stmt := topS 36
abbrev s__law_bent_state : Stmt := topS 37
abbrev s__law_bent : Stmt := topS 38
abbrev s__law_gone_on : Stmt := topS 39
abbrev s__law_letters : Stmt := topS 40
abbrev s__law_start : Stmt := topS 41
abbrev s__law_held : Stmt := topS 42
abbrev s__law_odd_right : Stmt := topS 43
abbrev s_law : Stmt := topS 44
structure Tx (K : Fg) (mg : Str → Option Value) (Y : XC → Addr) : Prop where
  d_is_below : Def K mg "is_below" s_is_below ["thing", "bound"]
  d_can_do : Def K mg "can_do" s_can_do ["state", "rule"]
  d_with_letter : Def K mg "with_letter" s_with_letter ["letters", "said"]
  d_comes_of : Def K mg "comes_of" s_comes_of ["state", "rule"]
  d_states_along : Def K mg "states_along" s_states_along ["book", "steps"]
  d_runners : Def K mg "runners" s_runners ["book", "state"]
  d_reached : Def K mg "reached" s_reached ["book", "first", "limit"]
  d_steps_to : Def K mg "steps_to" s_steps_to ["found", "at"]
  d_two_run : DefD K mg "two_run" s_two_run ["book", "limit"] "limit" (.int 200)
  d_are_letters : Def K mg "are_letters" s_are_letters ["thing", "letters"]
  d_is_state : Def K mg "is_state" s_is_state ["book", "thing"]
  d_are_closed : Def K mg "are_closed" s_are_closed ["book", "first", "things"]
  d_last_behind : Def K mg "last_behind" s_last_behind ["book", "thing"]
  d_is_two_run : Def K mg "is_two_run" s_is_two_run ["book", "thing"]
  d__law_stir : Def K mg "_law_stir" s__law_stir ["cell", "k"]
  d__law_some : Def K mg "_law_some" s__law_some ["cell", "many"]
  d__law_cell : Def K mg "_law_cell" s__law_cell ["script", "k"]
  d__law_chain : Def K mg "_law_chain" s__law_chain ["turns", "letters"]
  d__law_rule : Def K mg "_law_rule" s__law_rule ["some", "many", "letters"]
  d__law_book : Def K mg "_law_book" s__law_book ["script"]
  d__law_can : Def K mg "_law_can" s__law_can ["state", "rule"]
  d__law_comes : Def K mg "_law_comes" s__law_comes ["state", "rule"]
  d__law_running : Def K mg "_law_running" s__law_running ["book", "state"]
  d__law_all : Def K mg "_law_all" s__law_all ["book", "most"]
  d__law_along : Def K mg "_law_along" s__law_along ["book", "steps"]
  d__law_walk : Def K mg "_law_walk" s__law_walk ["book", "some"]
  d__law_whole : Def K mg "_law_whole" s__law_whole ["thing"]
  d__law_is_letters : Def K mg "_law_is_letters" s__law_is_letters ["book", "thing"]
  d__law_is_state : Def K mg "_law_is_state" s__law_is_state ["book", "thing"]
  d__law_closed : Def K mg "_law_closed" s__law_closed ["book", "first", "things"]
  d__law_due : Def K mg "_law_due" s__law_due ["book", "thing"]
  d__law_bent_state : Def K mg "_law_bent_state" s__law_bent_state ["book", "state", "some"]
  d__law_bent : Def K mg "_law_bent" s__law_bent ["book", "thing", "some"]
  d__law_gone_on : Def K mg "_law_gone_on" s__law_gone_on ["book", "starts", "most"]
  d__law_letters : Def K mg "_law_letters" s__law_letters ["book", "one"]
  d__law_start : Def K mg "_law_start" s__law_start ["book", "found", "some"]
  d__law_held : Def K mg "_law_held" s__law_held ["book", "thing"]
  d__law_odd_right : Def K mg "_law_odd_right" s__law_odd_right ["book", "far"]
  d_law : Def K mg "law" s_law ["script"]
  n_abs : mg "abs" = none
  n_all : mg "all" = none
  n_bool : mg "bool" = none
  n_enumerate : mg "enumerate" = none
  n_int : mg "int" = none
  n_isinstance : mg "isinstance" = none
  n_len : mg "len" = none
  n_list : mg "list" = none
  n_range : mg "range" = none
  n_repr : mg "repr" = none
  n_reversed : mg "reversed" = none
  n_set : mg "set" = none
  n_sorted : mg "sorted" = none
  n_tuple : mg "tuple" = none
  g_FIRST : TFirst K mg "FIRST"
  x_tooMany : XCls K mg "TooMany" (Y .tooMany)
end L35
namespace L35
open PySem PySem.Spec PyProof.Rows L2 GL
theorem sc_can_do : FnScope ["state", "rule", "house", "at", "heard", "to", "said"] ["state", "rule"] (defScope s_can_do) := ⟨rfl, rfl, rfl, by decide +kernel, rfl, by decide +kernel, by decide +kernel⟩
section
variable {P : Program} {w : World} {K : Fg} {mg : Str → Option Value} {base : Heap}
set_option maxHeartbeats 4000000 in
theorem ok_can_do {Y : XC → Addr} (T : Tx K mg Y)  : Cal P w K mg base 1 "can_do" ["state", "rule"] (spF K (fun a : (T4 Int Int (Tp Int) (Tp Int)) × (T5 Int Int (Option Int) Int (Option Int)) × Unit => canM a.1 a.2.1) (fun a => 0 ≤ a.2.1.a ∧ a.2.1.a < 2)) := by
  have nd := sc_can_do.nd
  refine def_spF (k := 0) T.d_can_do sc_can_do rfl fun fa cdv A outer s H E hr => ?_
  refine ⟨_, pss_cons (ps_asg (pv 1) (pg_tup rfl (pgs_cons (pg_name (i := 2) nd rfl (.inl rfl)) (pgs_cons (pg_name (i := 3) nd rfl (.inl rfl)) (pgs_cons (pg_name (i := 4) nd rfl (.inl rfl)) (pgs_cons (pg_name (i := 5) nd rfl (.inl rfl)) (pgs_cons (pg_name (i := 6) nd rfl (.inl rfl)) (pgs_nil))))))))
      (pss_cons (ps_ret (pe_and (pe_cmpR op_eq (pe_ix (r := rIxT K) ix_tup (pv 0) (pv 2) (fun _ _ => rfl)) (pv 3) (nomark _)) (pe_one (pe_or (pe_cmp (pc_isN (pv 4))) (pe_one (pe_cmpR (r := rIn K false) op_in_seq (pv 4) (pe_ix (r := rIxT K) ix_tup (pv 0) (pe_op op_sub (pe_int) (pv 2)) (fun _ _ => rfl)) (by rfl)))))))
      (pss_nil)), ?_⟩
  rintro ⟨state, rule, _⟩ hpre B S0 Q hret
  show At _ _ _ _ [.im state, .im rule, .no, .no, .no, .no, .no]
  obtain ⟨m0, m1⟩ := hpre
  dsimp only at m0 m1
  refine qg_t5 2 3 4 5 6 (ev_var (i := 1) rfl) rfl rfl rfl rfl rfl fun house at_ heard to said h_house h_at_ h_heard h_to h_said => ?_
  exact q_ret (ev_andV (ev_eq (ev_t4i (ev_var (i := 0) rfl) (ev_var (i := 2) rfl) (by subst_vars; exact ⟨by omega, by omega⟩)) (ev_var (i := 3) rfl)) (fun hc => ev_orV (ev_isN (by exact nn_int) (ev_var (i := 4) rfl)) (fun hc => ev_inT (EvX.get (α := Int) (ev_var (i := 4) rfl) (by exact isNone_false hc)) (ev_t4j (ev_var (i := 0) rfl) (ev_i0 (ev_int) (ev_var (i := 2) rfl)) (by subst_vars; exact ⟨by omega, by omega⟩))))) (hret _ _ (by subst_vars; unfold canM; rfl))
end
theorem sc_with_letter : FnScope ["letters", "said"] ["letters", "said"] (defScope s_with_letter) := ⟨rfl, rfl, rfl, by decide +kernel, rfl, by decide +kernel, by decide +kernel⟩
section
variable {P : Program} {w : World} {K : Fg} {mg : Str → Option Value} {base : Heap}
set_option maxHeartbeats 4000000 in
theorem ok_with_letter {Y : XC → Addr} (T : Tx K mg Y)  : Cal P w K mg base 1 "with_letter" ["letters", "said"] (spF K (fun a : (Tp Int) × (Option Int) × Unit => (Tp.mk (withLet a.1.l a.2.1))) (fun a => a.1.l.length ≤ 100)) := by
  have nd := sc_with_letter.nd
  refine def_spF (k := 0) T.d_with_letter sc_with_letter rfl fun fa cdv A outer s H E hr => ?_
  refine ⟨_, pss_cons (ps_if (PW.pt (pw_or (pt_cmp (pc_isN (pv 1))) (pw_or1 (pt_cmpR (r := rIn K false) op_in_seq (pv 1) (pv 0) (by rfl))))) (pss_cons (ps_ret (pv 0))
      (pss_nil)) (pss_nil))
      (pss_cons (ps_ret (pe_callTy call_tupG (by rfl) T.n_tuple (by decide +kernel) (pa_cons (pe_callB cr_sortedTN (by rfl) T.n_sorted (by decide +kernel) (pa_cons (pe_op op_catA (pv 0) (pe_tup (pa_cons (pv 1) pa_nil))) pa_nil)) pa_nil)))
      (pss_nil)), ?_⟩
  rintro ⟨letters, said, _⟩ hpre B S0 Q hret
  show At _ _ _ _ [.im letters, .im said]
  dsimp only at hpre
  refine q_if (et_or (et_B (ev_isN (by exact nn_int) (ev_var (i := 1) rfl))) (fun hc => et_test (ev_inT (EvX.get (α := Int) (ev_var (i := 1) rfl) (by first | exact isNone_false hc | exact isNone_false (Bool.or_eq_false_iff.mp hb0).1)) (ev_var (i := 0) rfl)))) (fun hb0 => ?_) (fun hb0 => ?_)
  ·
    exact q_ret (ev_var (i := 0) rfl) (hret _ _ (by unfold withLet; rw [if_pos hb0]))
  ·
    refine q_next ?_
    exact q_ret (ev_tup (EvL.c (el_sortedTN (ev_catT (ev_var (i := 0) rfl) (ev_tp (els_cons (EvX.get (α := Int) (ev_var (i := 1) rfl) (by first | exact isNone_false hc | exact isNone_false (Bool.or_eq_false_iff.mp hb0).1)) (els_nil)) (by simp)) (by exact le_line (by simp only [List.length_cons, List.length_nil]; omega)))))) (hret _ _ (by unfold withLet; rw [if_neg (by rw [hb0]; decide)]))
end
theorem sc_comes_of : FnScope ["state", "rule", "house", "at", "heard", "to", "said", "found"] ["state", "rule"] (defScope s_comes_of) := ⟨rfl, rfl, rfl, by decide +kernel, rfl, by decide +kernel, by decide +kernel⟩
section
variable {P : Program} {w : World} {K : Fg} {mg : Str → Option Value} {base : Heap}
set_option maxHeartbeats 4000000 in
theorem ok_comes_of {Y : XC → Addr} (T : Tx K mg Y) (c_with_letter : Cal P w K mg base 1 "with_letter" ["letters", "said"] (spF K (fun a : (Tp Int) × (Option Int) × Unit => (Tp.mk (withLet a.1.l a.2.1))) (fun a => a.1.l.length ≤ 100))) : Cal P w K mg base 2 "comes_of" ["state", "rule"] (spF K (fun a : (T4 Int Int (Tp Int) (Tp Int)) × (T5 Int Int (Option Int) Int (Option Int)) × Unit => comesM a.1 a.2.1) (fun a => (0 ≤ a.2.1.a ∧ a.2.1.a < 2) ∧ (a.1.c.l.length ≤ 100 ∧ a.1.d.l.length ≤ 100))) := by
  have nd := sc_comes_of.nd
  refine def_spF (k := 1) T.d_comes_of sc_comes_of rfl fun fa cdv A outer s H E hr => ?_
  refine ⟨_, pss_cons (ps_asg (pv 1) (pg_tup rfl (pgs_cons (pg_name (i := 2) nd rfl (.inl rfl)) (pgs_cons (pg_name (i := 3) nd rfl (.inl rfl)) (pgs_cons (pg_name (i := 4) nd rfl (.inl rfl)) (pgs_cons (pg_name (i := 5) nd rfl (.inl rfl)) (pgs_cons (pg_name (i := 6) nd rfl (.inl rfl)) (pgs_nil))))))))
      (pss_cons (ps_set (i := 7) nd rfl (.inl rfl) (pe_callTy call_listG (by rfl) T.n_list (by decide +kernel) (pa_cons (pv 0) pa_nil)))
      (pss_cons (ps_asg (pv 5) (pg_sub (pv 7) (pv 2) set_list))
      (pss_cons (ps_asg (pe_cal c_with_letter hr (by decide) (by rfl) (pa_cons (pe_ix (r := rIxT K) ix_tup (pv 0) (pe_op op_add (pe_int) (pv 2)) (fun _ _ => rfl)) (pa_cons (pv 6) pa_nil))) (pg_sub (pv 7) (pe_op op_add (pe_int) (pv 2)) set_list))
      (pss_cons (ps_ret (pe_callTy call_tupG (by rfl) T.n_tuple (by decide +kernel) (pa_cons (pv 7) pa_nil)))
      (pss_nil))))), ?_⟩
  rintro ⟨state, rule, _⟩ hpre B S0 Q hret
  show At _ _ _ _ [.im state, .im rule, .no, .no, .no, .no, .no, .no]
  obtain ⟨⟨m0, m1⟩, f1, f2⟩ := hpre
  dsimp only at m0 m1 f1 f2
  refine qg_t5 2 3 4 5 6 (ev_var (i := 1) rfl) rfl rfl rfl rfl rfl fun house at_ heard to said h_house h_at_ h_heard h_to h_said => ?_
  refine qg_own 7 (el_listS (ev_var (i := 0) rfl)) rfl fun found h_found => ?_
  refine qg_setL 7 (EvX.inl (ev_var (i := 5) rfl)) (ev_var (i := 2) rfl) rfl rfl (by subst_vars; simp only [List.length_set, sl4_len]; exact ⟨by omega, by show _ < (4 : Int); omega⟩) fun found1 h_found1 => ?_
  refine qg_setL 7 (EvX.inr (ev_call (ea_cons (ev_t4j (ev_var (i := 0) rfl) (ev_i0 (ev_int) (ev_var (i := 2) rfl)) (by subst_vars; exact ⟨by omega, by omega⟩)) (ea_cons (ev_var (i := 6) rfl) (ea_nil))) (by dsimp only; unfold t4j; split <;> assumption))) (ev_i0 (ev_int) (ev_var (i := 2) rfl)) rfl rfl (by subst_vars; simp only [List.length_set, sl4_len]; exact ⟨by omega, by show _ < (4 : Int); omega⟩) fun found2 h_found2 => ?_
  refine at_relL (i := 7) rfl ?_
  exact q_ret (EvX.st (comesM state rule) (ev_tup (EvX.c (ev_var (i := 7) rfl))) (by subst_vars; exact comes_list ⟨m0, m1⟩)) (hret _ _ (by rfl))
end
theorem sc_is_below : FnScope ["thing", "bound"] ["thing", "bound"] (defScope s_is_below) := ⟨rfl, rfl, rfl, by decide +kernel, rfl, by decide +kernel, by decide +kernel⟩
section
variable {P : Program} {w : World} {K : Fg} {mg : Str → Option Value} {base : Heap}
set_option maxHeartbeats 4000000 in
theorem ok_is_below {Y : XC → Addr} (T : Tx K mg Y)  : Cal P w K mg base 1 "is_below" ["thing", "bound"] (spF K (fun a : Dat × Int × Unit => btwD a.1 0 (a.2.1 - 1)) (fun a => True)) := by
  have nd := sc_is_below.nd
  refine def_spF (k := 0) T.d_is_below sc_is_below rfl fun fa cdv A outer s H E hr => ?_
  refine ⟨_, pss_cons (ps_ret (pe_and (pe_callB (r := rIsi K) call_isi (by rfl) T.n_isinstance (by decide +kernel) (pa_cons (pv 0) (pa_cons (pe_bltn (v := .ty "int") (by rfl) T.n_int (by decide +kernel) rfl) pa_nil))) (pe_and (pe_not (pe_callB (r := rIsi K) call_isi (by rfl) T.n_isinstance (by decide +kernel) (pa_cons (pv 0) (pa_cons (pe_bltn (v := .ty "bool") (by rfl) T.n_bool (by decide +kernel) rfl) pa_nil)))) (pe_one (pe_chain op_le op_lt (pe_int) (pv 0) (pv 1))))))
      (pss_nil), ?_⟩
  rintro ⟨thing, bound, _⟩ hpre B S0 Q hret
  show At _ _ _ _ [.im thing, .im bound]
  exact q_ret (ev_andV (ev_isID (ev_var (i := 0) rfl)) (fun hc0 => ev_andV (ev_notV (ev_isBD (ev_var (i := 0) rfl))) (fun hc1 => ev_chain (ev_int) (EvX.asI (ev_var (i := 0) rfl) (by exact isInt_of hc0 hc1)) (ev_var (i := 1) rfl)))) (hret _ _ (by exact part_ret))
end
theorem sc_states_along : FnScope ["book", "steps", "found", "one"] ["book", "steps"] (defScope s_states_along) := ⟨rfl, rfl, rfl, by decide +kernel, rfl, by decide +kernel, by decide +kernel⟩
section
variable {P : Program} {w : World} {K : Fg} {mg : Str → Option Value} {base : Heap}
set_option maxHeartbeats 4000000 in
theorem ok_states_along {Y : XC → Addr} (T : Tx K mg Y) (c_can_do : Cal P w K mg base 1 "can_do" ["state", "rule"] (spF K (fun a : (T4 Int Int (Tp Int) (Tp Int)) × (T5 Int Int (Option Int) Int (Option Int)) × Unit => canM a.1 a.2.1) (fun a => 0 ≤ a.2.1.a ∧ a.2.1.a < 2))) (c_comes_of : Cal P w K mg base 2 "comes_of" ["state", "rule"] (spF K (fun a : (T4 Int Int (Tp Int) (Tp Int)) × (T5 Int Int (Option Int) Int (Option Int)) × Unit => comesM a.1 a.2.1) (fun a => (0 ≤ a.2.1.a ∧ a.2.1.a < 2) ∧ (a.1.c.l.length ≤ 100 ∧ a.1.d.l.length ≤ 100)))) (c_is_below : Cal P w K mg base 1 "is_below" ["thing", "bound"] (spF K (fun a : Dat × Int × Unit => btwD a.1 0 (a.2.1 - 1)) (fun a => True))) : Cal P w K mg base 3 "states_along" ["book", "steps"] (spF K (fun a : (T4 (Tp Bool) (Tp Bool) Int (Tp (T5 Int Int (Option Int) Int (Option Int)))) × (List Dat) × Unit => alongM a.1 a.2.1) (fun a => BookOk a.1 ∧ a.2.1.length ≤ 2000)) := by
  have nd := sc_states_along.nd
  refine def_spF (k := 2) T.d_states_along sc_states_along rfl fun fa cdv A outer s H E hr => ?_
  refine ⟨_, pss_cons (ps_set (i := 2) nd rfl (.inl rfl) (pe_lst (pa_cons (pe_globT (by rfl)) pa_nil)))
      (pss_cons (ps_for PassesOwn.never rfl (pi_list (pv 1)) (pg_name (i := 3) nd rfl (.inl rfl))
      (pss_cons (ps_if (PW.pt (pw_or (pt_not (pt_val (pe_cal c_is_below hr (by decide) (by rfl) (pa_cons (pv 3) (pa_cons (pe_callB call_lenG (by rfl) T.n_len (by decide +kernel) (pa_cons (pe_ix (r := rIxT K) ix_tup (pv 0) pe_int (fun _ _ => rfl)) pa_nil)) pa_nil))))) (pw_or1 (pt_not (pt_val (pe_cal c_can_do hr (by decide) (by rfl) (pa_cons (pe_ix (r := rIxL K) ix_list (pv 2) (pe_un un_neg (pe_int)) (fun _ _ => rfl)) (pa_cons (pe_ix (r := rIxT K) ix_tup (pe_ix (r := rIxT K) ix_tup (pv 0) pe_int (fun _ _ => rfl)) (pv 3) (fun _ _ => rfl)) pa_nil)))))))) (pss_cons (ps_ret (pe_non))
      (pss_nil)) (pss_nil))
      (pss_cons (ps_expr (pe_bm PySem.F.plainAttrs_list PySem.F.slot_list_append PySem.F.type_list_append mt_append (pv 2) (pa_cons (pe_cal c_comes_of hr (by decide) (by rfl) (pa_cons (pe_ix (r := rIxL K) ix_list (pv 2) (pe_un un_neg (pe_int)) (fun _ _ => rfl)) (pa_cons (pe_ix (r := rIxT K) ix_tup (pe_ix (r := rIxT K) ix_tup (pv 0) pe_int (fun _ _ => rfl)) (pv 3) (fun _ _ => rfl)) pa_nil))) pa_nil)))
      (pss_nil))))
      (pss_cons (ps_ret (pv 2))
      (pss_nil))), ?_⟩
  rintro ⟨book, steps, _⟩ hpre B S0 Q hret
  show At _ _ _ _ [.im book, .im steps, .no, .no]
  obtain ⟨hbk, hsl⟩ := hpre
  dsimp only at hbk hsl
  refine qg_own 2 (el_lst (els_cons (ev_first T.g_FIRST) (els_nil)) (by simp)) rfl fun found h_found => ?_
  refine qg_forL (fun st_ : (List (T4 Int Int (Tp Int) (Tp Int))) => [.im book, .im steps, .ow st_, .no]) (alongB book) Option.some found (alongM book steps) (fun pre (st : List RSt) => AccOk book pre.length st) (it_list (ev_var (i := 1) rfl)) (.k (.k (.k (.d .n)))) (by rw [h_found]; unfold alongM; rfl) (by rw [h_found]; exact AccOk.start hbk) (fun pre0 one post0 s0 ex0 hs0 hR0 Sb0 rb0 => ⟨_, _, tg_name rfl, ?_⟩) (fun s0 hR0 hs0 => ?_)
  ·
    show At _ _ _ _ [.im book, .im steps, .ow s0, .im one]
    have hacc : AccOk book pre0.length s0 := hs0
    have hfl := hacc.len
    have hlast := hacc.last
    have hfew := hlast.few hbk
    refine q_if (et_or (et_not (et_B (ev_call (ea_cons (ev_var (i := 3) rfl) (ea_cons (ev_lenT (ev_4d (ev_var (i := 0) rfl))) (ea_nil))) (by ((try dsimp only) <;> (repeat' (first | assumption | omega | refine And.intro ?_ ?_)) <;> first | trivial | assumption | omega | decide | simp))))) (fun hc0 => et_not (et_B (ev_call (ea_cons (ev_lastC (ec_own (i := 2) rfl) (ev_neg (ev_int)) (by omega)) (ea_cons (ev_ixT (ev_4d (ev_var (i := 0) rfl)) (EvX.asI (ev_var (i := 3) rfl) (by first | exact (btw_at (n := book.d.l.length) (by simpa using hc0)).1 | exact (btw_at (n := book.d.l.length) (Bool.and_eq_true_iff.mp (step_yes hb0)).1).1)) (by first | exact (btw_at (n := book.d.l.length) (by simpa using hc0)).2 | exact (btw_at (n := book.d.l.length) (Bool.and_eq_true_iff.mp (step_yes hb0)).1).2)) (ea_nil))) (by exact (hbk.rules _ (ix_memR (btw_at (n := book.d.l.length) (by simpa using hc0)).2)).house))))) (fun hb0 => ?_) (fun hb0 => ?_)
    ·
      exact q_ret (ev_none (α := (List (T4 Int Int (Tp Int) (Tp Int))))) ((hret _ _ (by exact (forL_rt hR0 (along_rt (step_no hb0))).symm)).reb rb0)
    ·
      refine q_next ?_
      refine qg_app 2 rfl (ev_call (ea_cons (ev_lastC (ec_own (i := 2) rfl) (ev_neg (ev_int)) (by omega)) (ea_cons (ev_ixT (ev_4d (ev_var (i := 0) rfl)) (EvX.asI (ev_var (i := 3) rfl) (by first | exact (btw_at (n := book.d.l.length) (by simpa using hc0)).1 | exact (btw_at (n := book.d.l.length) (Bool.and_eq_true_iff.mp (step_yes hb0)).1).1)) (by first | exact (btw_at (n := book.d.l.length) (by simpa using hc0)).2 | exact (btw_at (n := book.d.l.length) (Bool.and_eq_true_iff.mp (step_yes hb0)).1).2)) (ea_nil))) (by exact ⟨(hbk.rules _ (ix_memR (btw_at (n := book.d.l.length) (Bool.and_eq_true_iff.mp (step_yes hb0)).1).2)).house, by dsimp only; omega, by dsimp only; omega⟩)) rfl (by exact lt_line (by have := congrArg List.length ex0; rw [List.length_append, List.length_cons] at this; omega)) fun found1 h_found1 => ?_
      exact q_next (at_mid (.k (.k (.k (.d .n)))) ⟨found1, by rfl, forL_nx hR0 (by rw [h_found1]; exact along_nx (step_yes hb0)), by rw [h_found1, List.length_append]; exact hacc.next hbk (step_yes hb0)⟩)
  ·
    show At _ _ _ _ [.im book, .im steps, .ow s0, .no]
    refine at_relL (i := 2) rfl ?_
    exact q_ret (EvX.some (ev_var (i := 2) rfl)) (hret _ _ (by exact hR0.symm))
end
theorem sc_runners : FnScope ["book", "state", "house"] ["book", "state"] (defScope s_runners) := ⟨rfl, rfl, rfl, by decide +kernel, rfl, by decide +kernel, by decide +kernel⟩
section
variable {P : Program} {w : World} {K : Fg} {mg : Str → Option Value} {base : Heap}
set_option maxHeartbeats 4000000 in
theorem ok_runners {Y : XC → Addr} (T : Tx K mg Y)  : Cal P w K mg base 1 "runners" ["book", "state"] (spF K (fun a : (T4 (Tp Bool) (Tp Bool) Int (Tp (T5 Int Int (Option Int) Int (Option Int)))) × (T4 Int Int (Tp Int) (Tp Int)) × Unit => rnsM a.1 a.2.1) (fun a => StOk a.1 a.2.1)) := by
  have nd := sc_runners.nd
  refine def_spF (k := 0) T.d_runners sc_runners rfl fun fa cdv A outer s H E hr => ?_
  refine ⟨_, pss_cons (ps_ret (pe_lc (own := [("house", 2)]) (g := gName 2) (by rfl) nd (pi_tup (pe_tup (pa_cons (pe_int) (pa_cons (pe_int) pa_nil)))) (blkOk_by (N := ["book", "state", "house"]) (sc := defScope s_runners) (by decide +kernel)) (fun _ _ _ _ _ => pg_name (i := 2) nd rfl (.inl rfl) (.inr rfl)) (fun _ _ _ _ _ => pts_one (pt_val (pe_ix (r := rIxT K) ix_tup (pe_ix (r := rIxT K) ix_tup (pv 0) (pv 2) (fun _ _ => rfl)) (pe_ix (r := rIxT K) ix_tup (pv 1) (pv 2) (fun _ _ => rfl)) (fun _ _ => rfl)))) (fun _ _ _ _ _ => pv 2)))
      (pss_nil), ?_⟩
  rintro ⟨book, state, _⟩ hpre B S0 Q hret
  show At _ _ _ _ [.im book, .im state, .no]
  have hst : StOk book state := hpre
  exact q_ret (EvL.ev (el_lcF _ _ (it_tup (ev_tp (els_cons (ev_int) (els_cons (ev_int) (els_nil))) (by simp))) (by first | decide | (show (2 : Nat) ≤ 1000000; decide) | (rw [len_rng]; decide)) rfl (fun x hm_x => ⟨_, _, tg_name rfl, (by decide), et_B (ev_ixT (ev_t4i (ev_var (i := 0) rfl) (ev_var (i := 2) rfl) (by exact bd02 hm_x)) (ev_t4i (ev_var (i := 1) rfl) (ev_var (i := 2) rfl) (by exact bd02 hm_x)) (by exact run_bd hst (in02 hm_x))), fun hf_x => ev_var (i := 2) rfl⟩))) (hret _ _ (by exact rns_eq))
end
theorem sc_are_letters : FnScope ["thing", "letters", "one", "k"] ["thing", "letters"] (defScope s_are_letters) := ⟨rfl, rfl, rfl, by decide +kernel, rfl, by decide +kernel, by decide +kernel⟩
section
variable {P : Program} {w : World} {K : Fg} {mg : Str → Option Value} {base : Heap}
set_option maxHeartbeats 4000000 in
theorem ok_are_letters {Y : XC → Addr} (T : Tx K mg Y) (c_is_below : Cal P w K mg base 1 "is_below" ["thing", "bound"] (spF K (fun a : Dat × Int × Unit => btwD a.1 0 (a.2.1 - 1)) (fun a => True))) : Cal P w K mg base 2 "are_letters" ["thing", "letters"] (spF K (fun a : Dat × Int × Unit => ltD a.2.1 a.1) (fun a => a.1.items.length ≤ 1000000)) := by
  have nd := sc_are_letters.nd
  refine def_spF (k := 1) T.d_are_letters sc_are_letters rfl fun fa cdv A outer s H E hr => ?_
  refine ⟨_, pss_cons (ps_if (PW.pt (pw_or (pt_not (pt_val (pe_callB (r := rIsi K) call_isi (by rfl) T.n_isinstance (by decide +kernel) (pa_cons (pv 0) (pa_cons (pe_bltn (v := .ty "tuple") (by rfl) T.n_tuple (by decide +kernel) rfl) pa_nil))))) (pw_or1 (pt_not (pt_val (pe_callB (cr_all rfl) (by rfl) T.n_all (by decide +kernel) (pa_cons (pe_lc (own := [("one", 2)]) (g := gName 2) (by rfl) nd (pi_tup (pv 0)) (blkOk_by (N := ["thing", "letters", "one", "k"]) (sc := defScope s_are_letters) (by decide +kernel)) (fun _ _ _ _ _ => pg_name (i := 2) nd rfl (.inl rfl) (.inr rfl)) (fun _ _ _ _ _ => pts_nil) (fun _ _ _ _ _ => pe_cal c_is_below hr (by decide) (by rfl) (pa_cons (pv 2) (pa_cons (pv 1) pa_nil)))) pa_nil))))))) (pss_cons (ps_ret (pe_bl))
      (pss_nil)) (pss_nil))
      (pss_cons (ps_ret (pe_callB (cr_all rfl) (by rfl) T.n_all (by decide +kernel) (pa_cons (pe_lc (own := [("k", 3)]) (g := gName 3) (by rfl) nd (pi_range1 (by rfl) T.n_range (pa_cons (pe_op op_sub (pe_callB call_lenG (by rfl) T.n_len (by decide +kernel) (pa_cons (pv 0) pa_nil)) (pe_int)) pa_nil)) (blkOk_by (N := ["thing", "letters", "one", "k"]) (sc := defScope s_are_letters) (by decide +kernel)) (fun _ _ _ _ _ => pg_name (i := 3) nd rfl (.inl rfl) (.inr rfl)) (fun _ _ _ _ _ => pts_nil) (fun _ _ _ _ _ => pe_cmpR op_lt (pe_ix (r := rIxT K) ix_tup (pv 0) (pv 3) (fun _ _ => rfl)) (pe_ix (r := rIxT K) ix_tup (pv 0) (pe_op op_add (pv 3) (pe_int)) (fun _ _ => rfl)) (nomark _))) pa_nil)))
      (pss_nil)), ?_⟩
  rintro ⟨thing, letters, _⟩ hpre B S0 Q hret
  show At _ _ _ _ [.im thing, .im letters, .no, .no]
  have hal := hpre
  dsimp only at hal
  refine q_if (et_or (et_not (et_B (ev_isTD (ev_var (i := 0) rfl)))) (fun hc0 => et_not (et_B (ev_all (EvL.c (el_lcM _ (it_tup (EvX.asT (ev_var (i := 0) rfl) (by first | (simpa using hc0) | exact (al_yes hb0).1))) (by first | exact hal | (rw [len_rng]; show ((thing.items.length : Int) - 1 - 0).toNat ≤ 1000000; omega)) rfl (fun x hm_x => ⟨_, _, tg_name rfl, (by decide), ev_call (ea_cons (ev_var (i := 2) rfl) (ea_cons (ev_var (i := 1) rfl) (ea_nil))) (by ((try dsimp only) <;> (repeat' (first | assumption | omega | refine And.intro ?_ ?_)) <;> first | trivial | assumption | omega | decide | simp))⟩))))))) (fun hb0 => ?_) (fun hb0 => ?_)
  ·
    exact q_ret (ev_bl) (hret _ _ (by exact al_no hb0))
  ·
    refine q_next ?_
    exact q_ret (ev_all (EvL.c (el_lcM _ (it_rng1 (ev_i0 (ev_lenT (EvX.asT (ev_var (i := 0) rfl) (by first | (simpa using hc0) | exact (al_yes hb0).1))) (ev_int)) (by first | omega | (dsimp only; omega))) (by first | exact hal | (rw [len_rng]; show ((thing.items.length : Int) - 1 - 0).toNat ≤ 1000000; omega)) rfl (fun x1 hm_x1 => ⟨_, _, tg_name rfl, (by decide), ev_b0 (EvX.asI (ev_ixT (EvX.asT (ev_var (i := 0) rfl) (by first | (simpa using hc0) | exact (al_yes hb0).1)) (ev_var (i := 3) rfl) (by have h9 := mem_rng.mp hm_x1; dsimp only at h9; exact ⟨by omega, by show _ < (thing.items.length : Int); omega⟩)) (by have h9 := mem_rng.mp hm_x1; dsimp only at h9; exact (btw_ib.mp ((al_yes hb0).2 _ (ix_memD (by omega) (by omega)))).1)) (EvX.asI (ev_ixT (EvX.asT (ev_var (i := 0) rfl) (by first | (simpa using hc0) | exact (al_yes hb0).1)) (ev_i0 (ev_var (i := 3) rfl) (ev_int)) (by have h9 := mem_rng.mp hm_x1; dsimp only at h9; exact ⟨by omega, by show _ < (thing.items.length : Int); omega⟩)) (by have h9 := mem_rng.mp hm_x1; dsimp only at h9; exact (btw_ib.mp ((al_yes hb0).2 _ (ix_memD (by omega) (by omega)))).1))⟩)))) (hret _ _ (by exact al_end hb0))
end
theorem sc_is_state : FnScope ["book", "thing"] ["book", "thing"] (defScope s_is_state) := ⟨rfl, rfl, rfl, by decide +kernel, rfl, by decide +kernel, by decide +kernel⟩
section
variable {P : Program} {w : World} {K : Fg} {mg : Str → Option Value} {base : Heap}
set_option maxHeartbeats 4000000 in
theorem ok_is_state {Y : XC → Addr} (T : Tx K mg Y) (c_are_letters : Cal P w K mg base 2 "are_letters" ["thing", "letters"] (spF K (fun a : Dat × Int × Unit => ltD a.2.1 a.1) (fun a => a.1.items.length ≤ 1000000))) (c_is_below : Cal P w K mg base 1 "is_below" ["thing", "bound"] (spF K (fun a : Dat × Int × Unit => btwD a.1 0 (a.2.1 - 1)) (fun a => True))) : Cal P w K mg base 3 "is_state" ["book", "thing"] (spF K (fun a : (T4 (Tp Bool) (Tp Bool) Int (Tp (T5 Int Int (Option Int) Int (Option Int)))) × Dat × Unit => stD a.1 a.2.1) (fun a => ∀ x ∈ a.2.1.items, x.items.length ≤ 1000000)) := by
  have nd := sc_is_state.nd
  refine def_spF (k := 2) T.d_is_state sc_is_state rfl fun fa cdv A outer s H E hr => ?_
  refine ⟨_, pss_cons (ps_if (PW.pt (pw_or (pt_not (pt_val (pe_callB (r := rIsi K) call_isi (by rfl) T.n_isinstance (by decide +kernel) (pa_cons (pv 1) (pa_cons (pe_bltn (v := .ty "tuple") (by rfl) T.n_tuple (by decide +kernel) rfl) pa_nil))))) (pw_or1 (pt_cmpR op_ne (pe_callB call_lenG (by rfl) T.n_len (by decide +kernel) (pa_cons (pv 1) pa_nil)) (pe_int) (nomark _))))) (pss_cons (ps_ret (pe_bl))
      (pss_nil)) (pss_nil))
      (pss_cons (ps_if (PW.pt (pw_or (pt_not (pt_val (pe_cal c_is_below hr (by decide) (by rfl) (pa_cons (pe_ix (r := rIxT K) ix_tup (pv 1) (pe_int) (fun _ _ => rfl)) (pa_cons (pe_callB call_lenG (by rfl) T.n_len (by decide +kernel) (pa_cons (pe_ix (r := rIxT K) ix_tup (pv 0) pe_int (fun _ _ => rfl)) pa_nil)) pa_nil))))) (pw_or1 (pt_not (pt_val (pe_cal c_is_below hr (by decide) (by rfl) (pa_cons (pe_ix (r := rIxT K) ix_tup (pv 1) (pe_int) (fun _ _ => rfl)) (pa_cons (pe_callB call_lenG (by rfl) T.n_len (by decide +kernel) (pa_cons (pe_ix (r := rIxT K) ix_tup (pv 0) pe_int (fun _ _ => rfl)) pa_nil)) pa_nil)))))))) (pss_cons (ps_ret (pe_bl))
      (pss_nil)) (pss_nil))
      (pss_cons (ps_ret (pe_and (pe_cal c_are_letters hr (by decide) (by rfl) (pa_cons (pe_ix (r := rIxT K) ix_tup (pv 1) (pe_int) (fun _ _ => rfl)) (pa_cons (pe_ix (r := rIxT K) ix_tup (pv 0) pe_int (fun _ _ => rfl)) pa_nil))) (pe_one (pe_cal c_are_letters hr (by decide) (by rfl) (pa_cons (pe_ix (r := rIxT K) ix_tup (pv 1) (pe_int) (fun _ _ => rfl)) (pa_cons (pe_ix (r := rIxT K) ix_tup (pv 0) pe_int (fun _ _ => rfl)) pa_nil))))))
      (pss_nil))), ?_⟩
  rintro ⟨book, thing, _⟩ hpre B S0 Q hret
  show At _ _ _ _ [.im book, .im thing]
  have hal := hpre
  dsimp only at hal
  refine q_if (et_or (et_not (et_B (ev_isTD (ev_var (i := 1) rfl)))) (fun hc0 => et_test (ev_ne (ev_lenT (EvX.asT (ev_var (i := 1) rfl) (by first | (simpa using hc0) | exact (st_four hb0).1))) (ev_int)))) (fun hb0 => ?_) (fun hb0 => ?_)
  ·
    exact q_ret (ev_bl) (hret _ _ (by exact st_ret0 hb0))
  ·
    refine q_next ?_
    refine q_if (et_or (et_not (et_B (ev_call (ea_cons (ev_ixT (EvX.asT (ev_var (i := 1) rfl) (by first | (simpa using hc0) | exact (st_four hb0).1)) (ev_int) (by exact ⟨by decide, by show _ < (thing.items.length : Int); rw [(st_four hb0).2]; decide⟩)) (ea_cons (ev_lenT (ev_4a (ev_var (i := 0) rfl))) (ea_nil))) (by ((try dsimp only) <;> (repeat' (first | assumption | omega | refine And.intro ?_ ?_)) <;> first | trivial | assumption | omega | decide | simp))))) (fun hc0 => et_not (et_B (ev_call (ea_cons (ev_ixT (EvX.asT (ev_var (i := 1) rfl) (by first | (simpa using hc0) | exact (st_four hb0).1)) (ev_int) (by exact ⟨by decide, by show _ < (thing.items.length : Int); rw [(st_four hb0).2]; decide⟩)) (ea_cons (ev_lenT (ev_4b (ev_var (i := 0) rfl))) (ea_nil))) (by ((try dsimp only) <;> (repeat' (first | assumption | omega | refine And.intro ?_ ?_)) <;> first | trivial | assumption | omega | decide | simp)))))) (fun hb1 => ?_) (fun hb1 => ?_)
    ·
      exact q_ret (ev_bl) (hret _ _ (by exact st_no1 (st_four hb0) hb1))
    ·
      refine q_next ?_
      exact q_ret (ev_andV (ev_call (ea_cons (ev_ixT (EvX.asT (ev_var (i := 1) rfl) (by first | (simpa using hc0) | exact (st_four hb0).1)) (ev_int) (by exact ⟨by decide, by show _ < (thing.items.length : Int); rw [(st_four hb0).2]; decide⟩)) (ea_cons (ev_4c (ev_var (i := 0) rfl)) (ea_nil))) (by exact hal _ (ix_memD (by decide) (by rw [(st_four hb0).2]; decide)))) (fun hc0 => ev_call (ea_cons (ev_ixT (EvX.asT (ev_var (i := 1) rfl) (by first | (simpa using hc0) | exact (st_four hb0).1)) (ev_int) (by exact ⟨by decide, by show _ < (thing.items.length : Int); rw [(st_four hb0).2]; decide⟩)) (ea_cons (ev_4c (ev_var (i := 0) rfl)) (ea_nil))) (by exact hal _ (ix_memD (by decide) (by rw [(st_four hb0).2]; decide))))) (hret _ _ (by exact st_end1 (st_four hb0) hb1))
end
theorem sc_are_closed : FnScope ["book", "first", "things", "known", "one", "rule"] ["book", "first", "things"] (defScope s_are_closed) := ⟨rfl, rfl, rfl, by decide +kernel, rfl, by decide +kernel, by decide +kernel⟩
section
variable {P : Program} {w : World} {K : Fg} {mg : Str → Option Value} {base : Heap}
set_option maxHeartbeats 4000000 in
theorem ok_are_closed {Y : XC → Addr} (T : Tx K mg Y) (c_can_do : Cal P w K mg base 1 "can_do" ["state", "rule"] (spF K (fun a : (T4 Int Int (Tp Int) (Tp Int)) × (T5 Int Int (Option Int) Int (Option Int)) × Unit => canM a.1 a.2.1) (fun a => 0 ≤ a.2.1.a ∧ a.2.1.a < 2))) (c_comes_of : Cal P w K mg base 2 "comes_of" ["state", "rule"] (spF K (fun a : (T4 Int Int (Tp Int) (Tp Int)) × (T5 Int Int (Option Int) Int (Option Int)) × Unit => comesM a.1 a.2.1) (fun a => (0 ≤ a.2.1.a ∧ a.2.1.a < 2) ∧ (a.1.c.l.length ≤ 100 ∧ a.1.d.l.length ≤ 100)))) (c_is_state : Cal P w K mg base 3 "is_state" ["book", "thing"] (spF K (fun a : (T4 (Tp Bool) (Tp Bool) Int (Tp (T5 Int Int (Option Int) Int (Option Int)))) × Dat × Unit => stD a.1 a.2.1) (fun a => ∀ x ∈ a.2.1.items, x.items.length ≤ 1000000))) : Cal P w K mg base 4 "are_closed" ["book", "first", "things"] (spF K (fun a : (T4 (Tp Bool) (Tp Bool) Int (Tp (T5 Int Int (Option Int) Int (Option Int)))) × (T4 Int Int (Tp Int) (Tp Int)) × Dat × Unit => clD a.1 a.2.1 a.2.2.1) (fun a => BookOk a.1 ∧ a.2.2.1.items.length ≤ 1000 ∧ ∀ x ∈ a.2.2.1.items, ∀ y ∈ x.items, y.items.length ≤ 1000000)) := by
  have nd := sc_are_closed.nd
  refine def_spF (k := 3) T.d_are_closed sc_are_closed rfl fun fa cdv A outer s H E hr => ?_
  refine ⟨_, pss_cons (ps_if (PW.pt (pw_or (pt_not (pt_val (pe_callB (r := rIsi K) call_isi (by rfl) T.n_isinstance (by decide +kernel) (pa_cons (pv 2) (pa_cons (pe_bltn (v := .ty "list") (by rfl) T.n_list (by decide +kernel) rfl) pa_nil))))) (pw_or1 (pt_not (pt_val (pe_callB (cr_all rfl) (by rfl) T.n_all (by decide +kernel) (pa_cons (pe_lc (own := [("one", 4)]) (g := gName 4) (by rfl) nd (pi_list (pv 2)) (blkOk_by (N := ["book", "first", "things", "known", "one", "rule"]) (sc := defScope s_are_closed) (by decide +kernel)) (fun _ _ _ _ _ => pg_name (i := 4) nd rfl (.inl rfl) (.inr rfl)) (fun _ _ _ _ _ => pts_nil) (fun _ _ _ _ _ => pe_cal c_is_state hr (by decide) (by rfl) (pa_cons (pv 0) (pa_cons (pv 4) pa_nil)))) pa_nil))))))) (pss_cons (ps_ret (pe_bl))
      (pss_nil)) (pss_nil))
      (pss_cons (ps_set (i := 3) nd rfl (.inl rfl) pe_nnew)
      (pss_cons (ps_for PassesOwn.never rfl (pi_list (pv 2)) (pg_name (i := 4) nd rfl (.inl rfl))
      (pss_cons (ps_nput (hu2_of hr) (pv 3) (pv 4) (pe_bl) (by rfl))
      (pss_nil)))
      (pss_cons (ps_if (PW.pt (pw_or (pt_cmpR op_ne (pe_callB call_lenN (by rfl) T.n_len (by decide +kernel) (pa_cons (pv 3) pa_nil)) (pe_callB call_lenG (by rfl) T.n_len (by decide +kernel) (pa_cons (pv 2) pa_nil)) (nomark _)) (pw_or1 (pt_cmp (pc_nnotin (hu2_of hr) (pv 1) (pv 3)))))) (pss_cons (ps_ret (pe_bl))
      (pss_nil)) (pss_nil))
      (pss_cons (ps_for PassesOwn.never rfl (pi_list (pv 2)) (pg_name (i := 4) nd rfl (.inl rfl))
      (pss_cons (ps_for PassesOwn.never rfl (pi_tup (pe_ix (r := rIxT K) ix_tup (pv 0) pe_int (fun _ _ => rfl))) (pg_name (i := 5) nd rfl (.inl rfl))
      (pss_cons (ps_if (PW.pt (pw_and (pt_val (pe_cal c_can_do hr (by decide) (by rfl) (pa_cons (pv 4) (pa_cons (pv 5) pa_nil)))) (pw_and1 (pt_cmp (pc_nnotin (hu2_of hr) (pe_cal c_comes_of hr (by decide) (by rfl) (pa_cons (pv 4) (pa_cons (pv 5) pa_nil))) (pv 3)))))) (pss_cons (ps_ret (pe_bl))
      (pss_nil)) (pss_nil))
      (pss_nil)))
      (pss_nil)))
      (pss_cons (ps_ret (pe_bl))
      (pss_nil)))))), ?_⟩
  rintro ⟨book, first, things, _⟩ hpre B S0 Q hret
  show At _ _ _ _ [.im book, .im first, .im things, .no, .no, .no]
  obtain ⟨hbk, hle, hin⟩ := hpre
  dsimp only at hbk hle hin
  refine q_if (et_or (et_not (et_B (ev_isLD (ev_var (i := 2) rfl)))) (fun hc0 => et_not (et_B (ev_all (EvL.c (el_lcM _ (it_list (EvX.asL (ev_var (i := 2) rfl) (by first | (simpa using hc0) | exact (ac_yes hb0).1))) (by exact Nat.le_trans hle (by decide)) rfl (fun x hm_x => ⟨_, _, tg_name rfl, (by decide), ev_call (ea_cons (ev_var (i := 0) rfl) (ea_cons (ev_var (i := 4) rfl) (ea_nil))) (by exact hin _ hm_x)⟩))))))) (fun hb0 => ?_) (fun hb0 => ?_)
  ·
    exact q_ret (ev_bl) (hret _ _ (by exact ac_no hb0))
  ·
    refine q_next ?_
    refine q_nnew (T4 Int Int (Tp Int) (Tp Int)) Bool (i := 3) rfl ?_
    refine at_genO 3 rfl fun known h_known => ?_
    refine qg_inv (fun st_ : (DN (T4 Int Int (Tp Int) (Tp Int)) Bool) => [.im book, .im first, .im things, .ow st_, .no, .no]) (fun pre (st : DN RSt Bool) => KnS pre st) known (it_list (EvX.asL (ev_var (i := 2) rfl) (by first | (simpa using hc0) | exact (ac_yes hb0).1))) (.k (.k (.k (.k (.d (.d .n)))))) (by rw [h_known]; exact KnS.start) (fun pre0 one post0 s0 ex0 hs0 Sb0 rb0 => ⟨_, _, tg_name rfl, ?_⟩) (fun s0 hs0 => ?_)
    ·
      show At _ _ _ _ [.im book, .im first, .im things, .ow s0, .im one, .no]
      have hpl : pre0.length < things.items.length := by rw [← ex0]; simp
      have hmx : one ∈ things.items := by rw [← ex0]; simp
      have hkl := KnS.le hs0
      refine q_nput (i := 3) (ev_bl) rfl (EvX.datS (ev_var (i := 4) rfl) (by first | exact ((ac_yes hb0).2 _ hmx).ex | exact hsd.ex)) rfl (by exact lt_line (by omega)) ?_
      refine at_genO 3 rfl fun known1 h_known1 => ?_
      show At _ _ _ _ [.im book, .im first, .im things, .ow known1, .im one, .no]
      exact q_next (at_mid (.k (.k (.k (.k (.d (.d .n)))))) ⟨known1, by rfl, by rw [h_known1]; exact KnS.put hs0⟩)
    ·
      show At _ _ _ _ [.im book, .im first, .im things, .ow s0, .no, .no]
      refine q_if (et_or (et_test (ev_ne (ev_lenNd (i := 3) rfl) (ev_len (EvX.c (EvX.asL (ev_var (i := 2) rfl) (by first | (simpa using hc0) | exact (ac_yes hb0).1)))))) (fun hc0 => et_B (ev_nnotin (i := 3) (ev_var (i := 1) rfl) rfl))) (fun hb1 => ?_) (fun hb1 => ?_)
      ·
        exact q_ret (ev_bl) (hret _ _ (by exact ac_no2 (ac_yes hb0).1 hs0 hb1))
      ·
        refine q_next ?_
        refine qg_inv (fun st_ : Unit => [.im book, .im first, .im things, .ow s0, .no, .no]) (fun pre (_ : Unit) => ClR book things.items pre) () (it_list (EvX.asL (ev_var (i := 2) rfl) (by first | (simpa using hc0) | exact (ac_yes hb0).1))) (.k (.k (.k (.k (.d (.d .n)))))) (fun x hx => by cases hx) (fun pre1 one1 post1 s1 ex1 hs1 Sb1 rb1 => ⟨_, _, tg_name rfl, ?_⟩) (fun s1 hs1 => ?_)
        ·
          show At _ _ _ _ [.im book, .im first, .im things, .ow s0, .im one1, .no]
          obtain ⟨k2, hC, hsame, hfin⟩ := ac_yes2 hs0 (ac_yes hb0).2 hb1
          have hl : (!things.isL) = false := by rw [(ac_yes hb0).1]; rfl
          have hsd := ClI.all hC ex1
          have hfew := hsd.ok.few hbk
          refine qg_inv (fun st_ : Unit => [.im book, .im first, .im things, .ow s0, .im one1, .no]) (fun pre (_ : Unit) => ClQ things.items (stOf one1) pre) () (it_tup (ev_4d (ev_var (i := 0) rfl))) (.k (.k (.k (.k (.k (.d .n)))))) (fun r hr => by cases hr) (fun pre2 rule post2 s2 ex2 hs2 Sb2 rb2 => ⟨_, _, tg_name rfl, ?_⟩) (fun s2 hs2 => ?_)
          ·
            show At _ _ _ _ [.im book, .im first, .im things, .ow s0, .im one1, .im rule]
            have hru := hbk.rules _ (in_pre ex2)
            refine q_if (et_and (et_B (ev_call (ea_cons (EvX.datS (ev_var (i := 4) rfl) (by first | exact ((ac_yes hb0).2 _ hmx).ex | exact hsd.ex)) (ea_cons (ev_var (i := 5) rfl) (ea_nil))) (by exact hru.house))) (fun hc0 => et_B (ev_nnotin (i := 3) (ev_call (ea_cons (EvX.datS (ev_var (i := 4) rfl) (by first | exact ((ac_yes hb0).2 _ hmx).ex | exact hsd.ex)) (ea_cons (ev_var (i := 5) rfl) (ea_nil))) (by exact ⟨hru.house, by dsimp only; omega, by dsimp only; omega⟩)) rfl))) (fun hb2 => ?_) (fun hb2 => ?_)
            ·
              exact q_ret (ev_bl) (((hret _ _ (by rw [hsame] at hb2; exact cl_ret2 hC.kn hl ex1 (in_pre ex2) hb2)).reb rb1).reb rb2)
            ·
              refine q_next ?_
              exact q_next (at_mid (.k (.k (.k (.k (.k (.d .n)))))) ⟨(), by rfl, by rw [hsame] at hb2; exact ClQ.next hs2 hC.kn hb2⟩)
          ·
            show At _ _ _ _ [.im book, .im first, .im things, .ow s0, .im one1, .no]
            exact q_next (at_mid (.k (.k (.k (.k (.d (.d .n)))))) ⟨(), by rfl, by exact ClR.next hs1 hs2⟩)
        ·
          show At _ _ _ _ [.im book, .im first, .im things, .ow s0, .no, .no]
          obtain ⟨k2, hC, hsame, hfin⟩ := ac_yes2 hs0 (ac_yes hb0).2 hb1
          have hl : (!things.isL) = false := by rw [(ac_yes hb0).1]; rfl
          exact q_ret (ev_bl) (hret _ _ (by exact hfin.symm.trans (cl_ret3 hC hl hs1)))
end
theorem sc_last_behind : FnScope ["book", "thing", "found"] ["book", "thing"] (defScope s_last_behind) := ⟨rfl, rfl, rfl, by decide +kernel, rfl, by decide +kernel, by decide +kernel⟩
section
variable {P : Program} {w : World} {K : Fg} {mg : Str → Option Value} {base : Heap}
set_option maxHeartbeats 4000000 in
theorem ok_last_behind {Y : XC → Addr} (T : Tx K mg Y) (c_states_along : Cal P w K mg base 3 "states_along" ["book", "steps"] (spF K (fun a : (T4 (Tp Bool) (Tp Bool) Int (Tp (T5 Int Int (Option Int) Int (Option Int)))) × (List Dat) × Unit => alongM a.1 a.2.1) (fun a => BookOk a.1 ∧ a.2.1.length ≤ 2000))) : Cal P w K mg base 4 "last_behind" ["book", "thing"] (spF K (fun a : (T4 (Tp Bool) (Tp Bool) Int (Tp (T5 Int Int (Option Int) Int (Option Int)))) × Dat × Unit => lastB a.1 a.2.1) (fun a => BookOk a.1 ∧ a.2.1.items.length ≤ 2000)) := by
  have nd := sc_last_behind.nd
  refine def_spF (k := 3) T.d_last_behind sc_last_behind rfl fun fa cdv A outer s H E hr => ?_
  refine ⟨_, pss_cons (ps_if (pt_not (pt_val (pe_callB (r := rIsi K) call_isi (by rfl) T.n_isinstance (by decide +kernel) (pa_cons (pv 1) (pa_cons (pe_bltn (v := .ty "list") (by rfl) T.n_list (by decide +kernel) rfl) pa_nil))))) (pss_cons (ps_ret (pe_non))
      (pss_nil)) (pss_nil))
      (pss_cons (ps_set (i := 2) nd rfl (.inl rfl) (pe_cal c_states_along hr (by decide) (by rfl) (pa_cons (pv 0) (pa_cons (pv 1) pa_nil))))
      (pss_cons (ps_if (pt_cmp (pc_isN (pv 2))) (pss_cons (ps_ret (pe_non))
      (pss_nil)) (pss_nil))
      (pss_cons (ps_ret (pe_ix (r := rIxL K) ix_list (pv 2) (pe_un un_neg (pe_int)) (fun _ _ => rfl)))
      (pss_nil)))), ?_⟩
  rintro ⟨book, thing, _⟩ hpre B S0 Q hret
  show At _ _ _ _ [.im book, .im thing, .no]
  obtain ⟨hbk, hle⟩ := hpre
  dsimp only at hbk hle
  refine q_if (et_not (et_B (ev_isLD (ev_var (i := 1) rfl)))) (fun hb0 => ?_) (fun hb0 => ?_)
  ·
    exact q_ret (ev_none (α := (T4 Int Int (Tp Int) (Tp Int)))) (hret _ _ (by exact lb_ret0 hb0))
  ·
    refine q_next ?_
    refine qg_set 2 (ev_call (ea_cons (ev_var (i := 0) rfl) (ea_cons (EvX.asL (ev_var (i := 1) rfl) (by simpa using hb0)) (ea_nil))) (by exact ⟨hbk, hle⟩)) rfl fun found h_found => ?_
    refine q_if (et_B (ev_isN (by exact nn_list) (ev_var (i := 2) rfl))) (fun hb1 => ?_) (fun hb1 => ?_)
    ·
      exact q_ret (ev_none (α := (T4 Int Int (Tp Int) (Tp Int)))) (hret _ _ (by exact lb_ret1 h_found hb1))
    ·
      refine q_next ?_
      exact q_ret (EvX.some (ev_last (EvX.get (α := (List (T4 Int Int (Tp Int) (Tp Int)))) (ev_var (i := 2) rfl) (by exact isNone_false hb1)) (ev_neg (ev_int)) (by have h9 := alongM_ok hbk (h_found.symm.trans (getD_some (d := default) (isNone_false hb1))); have h8 := h9.len; omega))) (hret _ _ (by exact lb_ret2 h_found hb0 hb1))
end
theorem sc_is_two_run : FnScope ["book", "thing", "last", "one"] ["book", "thing"] (defScope s_is_two_run) := ⟨rfl, rfl, rfl, by decide +kernel, rfl, by decide +kernel, by decide +kernel⟩
section
variable {P : Program} {w : World} {K : Fg} {mg : Str → Option Value} {base : Heap}
set_option maxHeartbeats 4000000 in
theorem ok_is_two_run {Y : XC → Addr} (T : Tx K mg Y) (c_are_closed : Cal P w K mg base 4 "are_closed" ["book", "first", "things"] (spF K (fun a : (T4 (Tp Bool) (Tp Bool) Int (Tp (T5 Int Int (Option Int) Int (Option Int)))) × (T4 Int Int (Tp Int) (Tp Int)) × Dat × Unit => clD a.1 a.2.1 a.2.2.1) (fun a => BookOk a.1 ∧ a.2.2.1.items.length ≤ 1000 ∧ ∀ x ∈ a.2.2.1.items, ∀ y ∈ x.items, y.items.length ≤ 1000000))) (c_last_behind : Cal P w K mg base 4 "last_behind" ["book", "thing"] (spF K (fun a : (T4 (Tp Bool) (Tp Bool) Int (Tp (T5 Int Int (Option Int) Int (Option Int)))) × Dat × Unit => lastB a.1 a.2.1) (fun a => BookOk a.1 ∧ a.2.1.items.length ≤ 2000))) (c_runners : Cal P w K mg base 1 "runners" ["book", "state"] (spF K (fun a : (T4 (Tp Bool) (Tp Bool) Int (Tp (T5 Int Int (Option Int) Int (Option Int)))) × (T4 Int Int (Tp Int) (Tp Int)) × Unit => rnsM a.1 a.2.1) (fun a => StOk a.1 a.2.1))) : Cal P w K mg base 5 "is_two_run" ["book", "thing"] (spF K (fun a : (T4 (Tp Bool) (Tp Bool) Int (Tp (T5 Int Int (Option Int) Int (Option Int)))) × Dat × Unit => tworD a.1 a.2.1) (fun a => BookOk a.1 ∧ ThOk a.2.1)) := by
  have nd := sc_is_two_run.nd
  refine def_spF (k := 4) T.d_is_two_run sc_is_two_run rfl fun fa cdv A outer s H E hr => ?_
  refine ⟨_, pss_cons (ps_if (PW.pt (pw_or (pt_not (pt_val (pe_callB (r := rIsi K) call_isi (by rfl) T.n_isinstance (by decide +kernel) (pa_cons (pv 1) (pa_cons (pe_bltn (v := .ty "tuple") (by rfl) T.n_tuple (by decide +kernel) rfl) pa_nil))))) (pw_or1 (pt_cmpR op_ne (pe_callB call_lenG (by rfl) T.n_len (by decide +kernel) (pa_cons (pv 1) pa_nil)) (pe_int) (nomark _))))) (pss_cons (ps_ret (pe_bl))
      (pss_nil)) (pss_nil))
      (pss_cons (ps_if (pt_cmpR (r := rEqD K) (op_eqD hr.units) (pe_ix (r := rIxT K) ix_tup (pv 1) (pe_int) (fun _ _ => rfl)) (pe_str) (nomark _)) (pss_cons (ps_set (i := 2) nd rfl (.inl rfl) (pe_cal c_last_behind hr (by decide) (by rfl) (pa_cons (pv 0) (pa_cons (pe_ix (r := rIxT K) ix_tup (pv 1) (pe_int) (fun _ _ => rfl)) pa_nil))))
      (pss_cons (ps_ret (pe_and (pe_cmp (pc_notN (pv 2))) (pe_one (pe_cmpR op_eq (pe_callB call_lenG (by rfl) T.n_len (by decide +kernel) (pa_cons (pe_cal c_runners hr (by decide) (by rfl) (pa_cons (pv 0) (pa_cons (pv 2) pa_nil))) pa_nil)) (pe_int) (nomark _)))))
      (pss_nil))) (pss_nil))
      (pss_cons (ps_if (PW.pt (pw_or (pt_cmpR (r := rNeD K) (op_neD hr.units) (pe_ix (r := rIxT K) ix_tup (pv 1) (pe_int) (fun _ _ => rfl)) (pe_str) (nomark _)) (pw_or1 (pt_not (pt_val (pe_cal c_are_closed hr (by decide) (by rfl) (pa_cons (pv 0) (pa_cons (pe_globT (by rfl)) (pa_cons (pe_ix (r := rIxT K) ix_tup (pv 1) (pe_int) (fun _ _ => rfl)) pa_nil))))))))) (pss_cons (ps_ret (pe_bl))
      (pss_nil)) (pss_nil))
      (pss_cons (ps_ret (pe_callB (cr_all rfl) (by rfl) T.n_all (by decide +kernel) (pa_cons (pe_lc (own := [("one", 3)]) (g := gName 3) (by rfl) nd (pi_list (pe_ix (r := rIxT K) ix_tup (pv 1) (pe_int) (fun _ _ => rfl))) (blkOk_by (N := ["book", "thing", "last", "one"]) (sc := defScope s_is_two_run) (by decide +kernel)) (fun _ _ _ _ _ => pg_name (i := 3) nd rfl (.inl rfl) (.inr rfl)) (fun _ _ _ _ _ => pts_nil) (fun _ _ _ _ _ => pe_cmpR op_lt (pe_callB (r := rLenS K) call_lenG (by rfl) T.n_len (by decide +kernel) (pa_cons (pe_cal c_runners hr (by decide) (by rfl) (pa_cons (pv 0) (pa_cons (pv 3) pa_nil))) pa_nil)) (pe_int) (nomark _))) pa_nil)))
      (pss_nil)))), ?_⟩
  rintro ⟨book, thing, _⟩ hpre B S0 Q hret
  show At _ _ _ _ [.im book, .im thing, .no, .no]
  obtain ⟨hbk, hth⟩ := hpre
  dsimp only at hbk hth
  refine q_if (et_or (et_not (et_B (ev_isTD (ev_var (i := 1) rfl)))) (fun hc0 => et_test (ev_ne (ev_lenT (EvX.asT (ev_var (i := 1) rfl) (by first | (simpa using hc0) | exact (two_two hb0).1))) (ev_int)))) (fun hb0 => ?_) (fun hb0 => ?_)
  ·
    exact q_ret (ev_bl) (hret _ _ (by exact two_ret0 hb0))
  ·
    refine q_next ?_
    refine q_if (et_test (ev_eqDS (ev_ixT (EvX.asT (ev_var (i := 1) rfl) (by first | (simpa using hc0) | exact (two_two hb0).1)) (ev_int) (by exact ⟨by decide, by show _ < (thing.items.length : Int); rw [(two_two hb0).2]; decide⟩)) (by exact hth.sh (ix_memD (by decide) (by rw [(two_two hb0).2]; decide))) (by decide +kernel))) (fun hb1 => ?_) (fun hb1 => ?_)
    ·
      refine qg_set 2 (ev_call (ea_cons (ev_var (i := 0) rfl) (ea_cons (ev_ixT (EvX.asT (ev_var (i := 1) rfl) (by first | (simpa using hc0) | exact (two_two hb0).1)) (ev_int) (by exact ⟨by decide, by show _ < (thing.items.length : Int); rw [(two_two hb0).2]; decide⟩)) (ea_nil))) (by exact ⟨hbk, Nat.le_trans (hth.le _ (ix_memD (by decide) (by rw [(two_two hb0).2]; decide))) (by decide)⟩)) rfl fun last h_last => ?_
      exact q_ret (ev_andV (ev_notN (by exact nn_t4) (ev_var (i := 2) rfl)) (fun hc0 => ev_eq (ev_len (EvX.c (ev_call (ea_cons (ev_var (i := 0) rfl) (ea_cons (EvX.get (α := (T4 Int Int (Tp Int) (Tp Int))) (ev_var (i := 2) rfl) (by exact hc0)) (ea_nil))) (by first | exact lastB_ok hbk (h_last.symm.trans (getD_some (d := default) hc0)) (Nat.le_trans (hth.le _ (ix_memD (by decide) (by rw [(two_two hb0).2]; decide))) (by decide)) | exact ((cl_all (two_nc hb2).2).2 _ hm_x).ok)))) (ev_int))) (hret _ _ (by exact two_ret1 hb0 hb1 h_last))
    ·
      refine q_next ?_
      refine q_if (et_or (et_test (ev_neDS (ev_ixT (EvX.asT (ev_var (i := 1) rfl) (by first | (simpa using hc0) | exact (two_two hb0).1)) (ev_int) (by exact ⟨by decide, by show _ < (thing.items.length : Int); rw [(two_two hb0).2]; decide⟩)) (by exact hth.sh (ix_memD (by decide) (by rw [(two_two hb0).2]; decide))) (by decide +kernel))) (fun hc0 => et_not (et_B (ev_call (ea_cons (ev_var (i := 0) rfl) (ea_cons (ev_first T.g_FIRST) (ea_cons (ev_ixT (EvX.asT (ev_var (i := 1) rfl) (by first | (simpa using hc0) | exact (two_two hb0).1)) (ev_int) (by exact ⟨by decide, by show _ < (thing.items.length : Int); rw [(two_two hb0).2]; decide⟩)) (ea_nil)))) (by have hm9 : ix thing.items 1 ∈ thing.items := ix_memD (by decide) (by rw [(two_two hb0).2]; decide); exact ⟨hbk, hth.le _ hm9, hth.inn _ hm9⟩))))) (fun hb2 => ?_) (fun hb2 => ?_)
      ·
        exact q_ret (ev_bl) (hret _ _ (by exact two_ret2 hb0 hb1 hb2))
      ·
        refine q_next ?_
        exact q_ret (ev_all (EvL.c (el_lcM _ (it_list (EvX.asL (ev_ixT (EvX.asT (ev_var (i := 1) rfl) (by first | (simpa using hc0) | exact (two_two hb0).1)) (ev_int) (by exact ⟨by decide, by show _ < (thing.items.length : Int); rw [(two_two hb0).2]; decide⟩)) (by exact (cl_all (two_nc hb2).2).1))) (by exact Nat.le_trans (hth.le _ (ix_memD (by decide) (by rw [(two_two hb0).2]; decide))) (by decide)) rfl (fun x hm_x => ⟨_, _, tg_name rfl, (by decide), ev_b0 (ev_len (EvX.c (ev_call (ea_cons (ev_var (i := 0) rfl) (ea_cons (EvX.datS (ev_var (i := 3) rfl) (by exact ((cl_all (two_nc hb2).2).2 _ hm_x).ex)) (ea_nil))) (by first | exact lastB_ok hbk (h_last.symm.trans (getD_some (d := default) hc0)) (Nat.le_trans (hth.le _ (ix_memD (by decide) (by rw [(two_two hb0).2]; decide))) (by decide)) | exact ((cl_all (two_nc hb2).2).2 _ hm_x).ok)))) (ev_int)⟩)))) (hret _ _ (by exact two_ret3 hb0 hb1 hb2))
end
theorem sc_reached : FnScope ["book", "first", "limit", "found", "known", "at", "here", "number", "rule", "other"] ["book", "first", "limit"] (defScope s_reached) := ⟨rfl, rfl, rfl, by decide +kernel, rfl, by decide +kernel, by decide +kernel⟩
section
variable {P : Program} {w : World} {K : Fg} {mg : Str → Option Value} {base : Heap}
set_option maxHeartbeats 4000000 in
theorem ok_reached {Y : XC → Addr} (T : Tx K mg Y) (c_can_do : Cal P w K mg base 1 "can_do" ["state", "rule"] (spF K (fun a : (T4 Int Int (Tp Int) (Tp Int)) × (T5 Int Int (Option Int) Int (Option Int)) × Unit => canM a.1 a.2.1) (fun a => 0 ≤ a.2.1.a ∧ a.2.1.a < 2))) (c_comes_of : Cal P w K mg base 2 "comes_of" ["state", "rule"] (spF K (fun a : (T4 Int Int (Tp Int) (Tp Int)) × (T5 Int Int (Option Int) Int (Option Int)) × Unit => comesM a.1 a.2.1) (fun a => (0 ≤ a.2.1.a ∧ a.2.1.a < 2) ∧ (a.1.c.l.length ≤ 100 ∧ a.1.d.l.length ≤ 100)))) : CalX P w K mg base 3 "reached" ["book", "first", "limit"] (spX K Y (fun (a : (T4 (Tp Bool) (Tp Bool) Int (Tp (T5 Int Int (Option Int) Int (Option Int)))) × (T4 Int Int (Tp Int) (Tp Int)) × Int × Unit) => (rchM a.1 a.2.1 a.2.2.1 : XC ⊕ (List (T3 (T4 Int Int (Tp Int) (Tp Int)) (Option Int) (Option Int))))) (fun a => (BookOk a.1 ∧ StOk a.1 a.2.1) ∧ 1 ≤ a.2.2.1 ∧ a.2.2.1 ≤ 1000)) := by
  have nd := sc_reached.nd
  refine def_spX (k := 2) T.d_reached sc_reached rfl fun fa cdv A outer s H E hr => ?_
  refine ⟨_, pss_cons (ps_set (i := 3) nd rfl (.inl rfl) (pe_lst (pa_cons (pe_tup (pa_cons (pv 1) (pa_cons (pe_non) (pa_cons (pe_non) pa_nil)))) pa_nil)))
      (pss_cons (ps_set (i := 4) nd rfl (.inl rfl) (pe_ndisp1 (sh := NKey.sh (T4 Int Int (Tp Int) (Tp Int))) (hu2_of hr) (pv 1) (pe_bl)))
      (pss_cons (ps_set (i := 5) nd rfl (.inl rfl) (pe_int))
      (pss_cons (ps_while (passes_of rfl) (pt_cmpR op_lt (pv 5) (pe_callB call_lenG (by rfl) T.n_len (by decide +kernel) (pa_cons (pv 3) pa_nil)) (nomark _))
      (pss_cons (ps_set (i := 6) nd rfl (.inl rfl) (pe_ix (r := rIxT K) ix_tup (pe_ix (r := rIxL K) ix_list (pv 3) (pv 5) (fun _ _ => rfl)) pe_int (fun _ _ => rfl)))
      (pss_cons (ps_for (passes_of rfl) rfl (pi_enumT (by rfl) T.n_enumerate (pa_cons (pe_ix (r := rIxT K) ix_tup (pv 0) pe_int (fun _ _ => rfl)) pa_nil)) (pg_tup rfl (pgs_cons (pg_name (i := 7) nd rfl (.inl rfl)) (pgs_cons (pg_name (i := 8) nd rfl (.inl rfl)) (pgs_nil))))
      (Evl.pss_cut (ps_if (pt_val (pe_cal c_can_do hr (by decide) (by rfl) (pa_cons (pv 6) (pa_cons (pv 8) pa_nil)))) (pss_cons (ps_set (i := 9) nd rfl (.inl rfl) (pe_cal c_comes_of hr (by decide) (by rfl) (pa_cons (pv 6) (pa_cons (pv 8) pa_nil))))
      (Evl.pss_cut (ps_if (pt_cmp (pc_nnotin (hu2_of hr) (pv 9) (pv 4))) (pss_cons (ps_if (pt_cmpR op_eq (pe_callB call_lenG (by rfl) T.n_len (by decide +kernel) (pa_cons (pv 3) pa_nil)) (pv 2) (nomark _)) (pss_cons (ps_raiseX T.x_tooMany rfl (takes_of rfl rfl rfl rfl) rfl)
      (pss_nil)) (pss_nil))
      (pss_cons (ps_nput (hu2_of hr) (pv 4) (pv 9) (pe_bl) (by rfl))
      (pss_cons (ps_expr (pe_bm PySem.F.plainAttrs_list PySem.F.slot_list_append PySem.F.type_list_append mt_append (pv 3) (pa_cons (pe_tup (pa_cons (pv 9) (pa_cons (pv 5) (pa_cons (pv 7) pa_nil)))) pa_nil)))
      (pss_nil)))) (pss_nil))
      (pss_nil))) (pss_nil))
      (pss_nil)))
      (pss_cons (ps_set (i := 5) nd rfl (.inl rfl) (pe_op op_add (pv 5) (pe_int)))
      (pss_nil)))))
      (pss_cons (ps_ret (pv 3))
      (pss_nil))))), ?_⟩
  rintro ⟨book, first, limit, _⟩ hpre B S0 Q hret herr
  show At _ _ _ _ [.im book, .im first, .im limit, .no, .no, .no, .no, .no, .no, .no]
  obtain ⟨⟨hbk, hf⟩, l0, l1⟩ := hpre
  dsimp only at hbk hf l0 l1
  refine qg_own 3 (el_lst (els_cons (ev_t3 (ev_var (i := 1) rfl) (ev_none (α := Int)) (ev_none (α := Int))) (els_nil)) (by simp)) rfl fun found h_found => ?_
  refine q_nnew1 (i := 4) (ev_var (i := 1) rfl) (ev_bl) rfl ?_
  refine at_genO 4 rfl fun known h_known => ?_
  refine qg_set 5 (ev_int) rfl fun at_ h_at_ => ?_
  show At _ _ _ _ [.im book, .im first, .im limit, .ow found, .ow known, .im at_, .no, .no, .no, .no]
  refine qg_whI (fun st_ : (List (T3 (T4 Int Int (Tp Int) (Tp Int)) (Option Int) (Option Int))) × (DN (T4 Int Int (Tp Int) (Tp Int)) Bool) × Int => [.im book, .im first, .im limit, .ow st_.1, .ow st_.2.1, .im st_.2.2, .no, .no, .no, .no]) (fun st : List RRow × DN RSt Bool × Int => decide (st.2.2 < (st.1.length : Int))) (found, known, at_) (fun st : List RRow × DN RSt Bool × Int => ∃ n, RcI book first limit st.1 st.2.1 st.2.2 n) (fun st : List RRow × DN RSt Bool × Int => (limit + 1 - st.2.2).toNat) (.k (.k (.k (.k (.k (.k (.d (.d (.d (.d .n)))))))))) (by exact ⟨0, by rw [h_found, h_known, h_at_]; exact RcI.start l0⟩) (fun s0 hI0 => ?_) (fun s0 hI0 hc0 Sb0 rb0 => ?_) (fun s0 hI0 hc0 Sb0 rb0 => ?_)
  ·
    obtain ⟨found_c, known_c, at_c⟩ := s0
    show EvT _ _ [.im book, .im first, .im limit, .ow found_c, .ow known_c, .im at_c, .no, .no, .no, .no] _ [.im book, .im first, .im limit, .ow found_c, .ow known_c, .im at_c, .no, .no, .no, .no]
    exact et_test (ev_b0 (ev_var (i := 5) rfl) (ev_len (ec_own (i := 3) rfl)))
  ·
    obtain ⟨found_b, known_b, at_b⟩ := s0
    show At _ _ _ _ [.im book, .im first, .im limit, .ow found_b, .ow known_b, .im at_b, .no, .no, .no, .no]
    obtain ⟨n, hI⟩ := hI0
    have hI : RcI book first limit found_b known_b at_b n := hI
    have ha : at_b < (found_b.length : Int) := of_decide_eq_true hc0
    have hst := hI.ok hbk hf ha
    have hfew := hst.few hbk
    have hle := hI.le
    have hea := hI.ea
    refine qg_set 6 (ev_3a (ev_ixC (ec_own (i := 3) rfl) (ev_var (i := 5) rfl) (by first | omega | exact cup_bd _ (by first | decide | (dsimp only; omega) | simp)))) rfl fun here h_here => ?_
    refine qg_inv (fun st_ : (List (T3 (T4 Int Int (Tp Int) (Tp Int)) (Option Int) (Option Int))) × (DN (T4 Int Int (Tp Int) (Tp Int)) Bool) => [.im book, .im first, .im limit, .ow st_.1, .ow st_.2, .im at_b, .im here, .no, .no, .no]) (fun pre (st : List RRow × DN RSt Bool) => RcJ book first limit n pre st.1 st.2) (found_b, known_b) (it_enumT (ev_4d (ev_var (i := 0) rfl))) (.k (.k (.k (.k (.k (.k (.k (.d (.d (.d .n)))))))))) hI.into (fun pre1 it post1 s1 ex1 hs1 Sb1 rb1 => ⟨_, _, tg_pair (tg_name rfl) (tg_name rfl), ?_⟩) (fun s1 hs1 => ?_)
    ·
      obtain ⟨found_b1, known_b1⟩ := s1
      show At _ _ _ _ [.im book, .im first, .im limit, .ow found_b1, .ow known_b1, .im at_b, .im here, .im it.1, .im it.2, .no]
      have hJ : RcJ book first limit n pre1 found_b1 known_b1 := hs1
      have hh : here = (ix (Ur book first n) (n : Int)).a := by rw [h_here, hI.hr_]
      have hru := hbk.rules _ (in_enum ex1)
      have hfh : here.c.l.length ≤ 25 ∧ here.d.l.length ≤ 25 := by rw [h_here]; exact hfew
      have hjl := hJ.le
      have hkl := hJ.kn.len
      rw [List.length_map] at hkl
      refine q_cutI (fun st_ : (List (T3 (T4 Int Int (Tp Int) (Tp Int)) (Option Int) (Option Int))) × (DN (T4 Int Int (Tp Int) (Tp Int)) Bool) => [.im book, .im first, .im limit, .ow st_.1, .ow st_.2, .im at_b, .im here, .im it.1, .im it.2, .no]) (fun st : List RRow × DN RSt Bool => RcJ book first limit n (pre1 ++ [it]) st.1 st.2) ?_ (fun sI0 hI_0 => ?_)
      · refine q_ifc (et_B (ev_call (ea_cons (ev_var (i := 6) rfl) (ea_cons (ev_var (i := 8) rfl) (ea_nil))) (by exact hru.house))) (fun hb0 => ?_) (fun hb0 => ?_)
        ·
          refine qg_set 9 (ev_call (ea_cons (ev_var (i := 6) rfl) (ea_cons (ev_var (i := 8) rfl) (ea_nil))) (by exact ⟨hru.house, by dsimp only; omega, by dsimp only; omega⟩)) rfl fun other h_other => ?_
          refine q_cutI (fun st_ : (List (T3 (T4 Int Int (Tp Int) (Tp Int)) (Option Int) (Option Int))) × (DN (T4 Int Int (Tp Int) (Tp Int)) Bool) => [.im book, .im first, .im limit, .ow st_.1, .ow st_.2, .im at_b, .im here, .im it.1, .im it.2, .im other]) (fun st : List RRow × DN RSt Bool => RcJ book first limit n (pre1 ++ [it]) st.1 st.2) ?_ (fun sI1 hI_1 => ?_)
          · refine q_ifc (et_B (ev_nnotin (i := 4) (ev_var (i := 9) rfl) rfl)) (fun hb1 => ?_) (fun hb1 => ?_)
            ·
              refine q_if (et_test (ev_eq (ev_len (ec_own (i := 3) rfl)) (ev_var (i := 2) rfl))) (fun hb2 => ?_) (fun hb2 => ?_)
              ·
                refine q_raise ?_
                exact At.reb rb1 (At.reb rb0 (herr _ _ (by exact RcJ.err hI ha hJ ex1 hh hb0 (by rw [← h_other]; simpa using hb1) (of_decide_eq_true hb2))))
              ·
                refine q_next ?_
                refine q_nput (i := 4) (ev_bl) rfl (ev_var (i := 9) rfl) rfl (by exact lt_line (by omega)) ?_
                refine at_genO 4 rfl fun known1 h_known1 => ?_
                show At _ _ _ _ [.im book, .im first, .im limit, .ow found_b1, .ow known1, .im at_b, .im here, .im it.1, .im it.2, .im other]
                show At _ _ _ _ [.im book, .im first, .im limit, .ow found_b1, .ow known1, .im at_b, .im here, .im it.1, .im it.2, .im other]
                refine qg_app 3 rfl (ev_t3 (ev_var (i := 9) rfl) (EvX.some (ev_var (i := 5) rfl)) (EvX.some (ev_var (i := 7) rfl))) rfl (by exact lt_line (by omega)) fun found1 h_found1 => ?_
                refine q_next ?_
                exact at_mid (.k (.k (.k (.k (.k (.k (.k (.k (.k (.k .n)))))))))) ⟨(found1, known1), rfl, by rw [h_found1, h_known1, h_other, hea]; exact hJ.new hh hb0 (by rw [← h_other]; simpa using hb1) (of_decide_eq_false hb2)⟩
            ·
              refine q_next ?_
              exact at_mid (.k (.k (.k (.k (.k (.k (.k (.k (.k (.k .n)))))))))) ⟨(found_b1, known_b1), rfl, by exact hJ.old hh hb0 (by rw [← h_other]; simpa using hb1)⟩
          ·
            obtain ⟨found2, known2⟩ := sI1
            show At _ _ _ _ [.im book, .im first, .im limit, .ow found2, .ow known2, .im at_b, .im here, .im it.1, .im it.2, .im other]
            refine q_next ?_
            exact at_mid (.k (.k (.k (.k (.k (.k (.k (.k (.k (.d .n)))))))))) ⟨(found2, known2), rfl, by exact hI_1⟩
        ·
          refine q_next ?_
          exact at_mid (.k (.k (.k (.k (.k (.k (.k (.k (.k (.d .n)))))))))) ⟨(found_b1, known_b1), rfl, by exact hJ.no hh hb0⟩
      ·
        obtain ⟨found3, known3⟩ := sI0
        show At _ _ _ _ [.im book, .im first, .im limit, .ow found3, .ow known3, .im at_b, .im here, .im it.1, .im it.2, .no]
        exact q_next (at_mid (.k (.k (.k (.k (.k (.k (.k (.d (.d (.d .n)))))))))) ⟨(found3, known3), by rfl, by exact hI_0⟩)
    ·
      obtain ⟨found_e, known_e⟩ := s1
      show At _ _ _ _ [.im book, .im first, .im limit, .ow found_e, .ow known_e, .im at_b, .im here, .no, .no, .no]
      refine qg_set 5 (ev_i0 (ev_var (i := 5) rfl) (ev_int)) rfl fun at_1 h_at_1 => ?_
      refine q_next (at_mid (.k (.k (.k (.k (.k (.k (.d (.d (.d (.d .n)))))))))) ⟨(found_e, known_e, at_1), by rfl, ?_, ?_⟩)
      · exact ⟨n + 1, by rw [h_at_1]; exact hI.next ha hs1⟩
      · show (limit + 1 - at_1).toNat < (limit + 1 - at_b).toNat; rw [h_at_1]; omega
  ·
    obtain ⟨found_e1, known_e1, at_e⟩ := s0
    show At _ _ _ _ [.im book, .im first, .im limit, .ow found_e1, .ow known_e1, .im at_e, .no, .no, .no, .no]
    obtain ⟨n, hI⟩ := hI0
    have ha := of_decide_eq_false hc0
    refine at_relL (i := 3) rfl ?_
    exact q_ret (ev_var (i := 3) rfl) ((hret _ _ (by exact hI.end_ ha)).reb rb0)
end
theorem sc_steps_to : FnScope ["found", "at", "steps"] ["found", "at"] (defScope s_steps_to) := ⟨rfl, rfl, rfl, by decide +kernel, rfl, by decide +kernel, by decide +kernel⟩
section
variable {P : Program} {w : World} {K : Fg} {mg : Str → Option Value} {base : Heap}
set_option maxHeartbeats 4000000 in
theorem ok_steps_to {Y : XC → Addr} (T : Tx K mg Y)  : Cal P w K mg base 1 "steps_to" ["found", "at"] (spN K (fun a : (List (T3 (T4 Int Int (Tp Int) (Tp Int)) (Option Int) (Option Int))) × Int × Unit => stepsM a.1 a.2.1) (fun a => (∃ b : Book, RowsOk b firstS a.1) ∧ (0 ≤ a.2.1 ∧ a.2.1 < (a.1.length : Int)) ∧ a.1.length ≤ 1000)) := by
  have nd := sc_steps_to.nd
  refine def_spN (k := 0) T.d_steps_to sc_steps_to rfl fun fa cdv A outer s H E hr => ?_
  refine ⟨_, pss_cons (ps_set (i := 2) nd rfl (.inl rfl) (pe_lst (pa_nil)))
      (pss_cons (ps_while PassesOwn.never (pt_cmp (pc_notN (pe_ix (r := rIxT K) ix_tup (pe_ix (r := rIxL K) ix_list (pv 0) (pv 1) (fun _ _ => rfl)) pe_int (fun _ _ => rfl))))
      (pss_cons (ps_expr (pe_bm PySem.F.plainAttrs_list PySem.F.slot_list_append PySem.F.type_list_append mt_append (pv 2) (pa_cons (pe_ix (r := rIxT K) ix_tup (pe_ix (r := rIxL K) ix_list (pv 0) (pv 1) (fun _ _ => rfl)) pe_int (fun _ _ => rfl)) pa_nil)))
      (pss_cons (ps_set (i := 1) nd rfl (.inl rfl) (pe_ix (r := rIxT K) ix_tup (pe_ix (r := rIxL K) ix_list (pv 0) (pv 1) (fun _ _ => rfl)) pe_int (fun _ _ => rfl)))
      (pss_nil))))
      (pss_cons (ps_ret (pe_lstRev rfl (by rfl) T.n_list (by rfl) T.n_reversed (pv 2)))
      (pss_nil))), ?_⟩
  rintro ⟨found, at_, _⟩ hpre B S0 Q hret
  show At _ _ _ _ [.im found, .im at_, .no]
  obtain ⟨⟨bk, hro⟩, hab, hl⟩ := hpre
  dsimp only at hro hab hl
  refine qg_own 2 (el_lst (els_nil (α := Int)) (by simp)) rfl fun steps h_steps => ?_
  refine qg_whI (fun st_ : (List Int) × Int => [.im found, .im st_.2, .ow st_.1]) (fun st : List Int × Int => (ix found st.2).b.isSome) (steps, at_) (fun st : List Int × Int => ∃ k, StI found at_ st k) (fun st : List Int × Int => st.2.toNat) (.k (.k (.k .n))) (by exact ⟨at_.toNat + 1, by rw [h_steps]; exact StI.start hab⟩) (fun s0 hI0 => ?_) (fun s0 hI0 hc0 Sb0 rb0 => ?_) (fun s0 hI0 hc0 Sb0 rb0 => ?_)
  ·
    obtain ⟨steps_c, at_c⟩ := s0
    show EvT _ _ [.im found, .im at_c, .ow steps_c] _ [.im found, .im at_c, .ow steps_c]
    obtain ⟨k, hI⟩ := hI0
    have hbd : 0 ≤ at_c ∧ at_c < (found.length : Int) := hI.bd
    exact et_B (ev_notN (by exact nn_int) (ev_3b (ev_ix (ev_var (i := 0) rfl) (ev_var (i := 1) rfl) (by exact hbd))))
  ·
    obtain ⟨steps_b, at_b⟩ := s0
    show At _ _ _ _ [.im found, .im at_b, .ow steps_b]
    obtain ⟨k, hI⟩ := hI0
    have hbd : 0 ≤ at_b ∧ at_b < (found.length : Int) := hI.bd
    have hkl : steps_b.length + k ≤ found.length + 1 := hI.kl
    obtain ⟨r1, r2, r3⟩ := row_some hro hbd hc0
    obtain ⟨k2, ek, hI2⟩ := StI.next hro hI hc0
    refine qg_app 2 rfl (EvX.get (α := Int) (ev_3c (ev_ix (ev_var (i := 0) rfl) (ev_var (i := 1) rfl) (by exact hbd))) (by first | exact hc0 | exact r1)) rfl (by exact lt_line (by omega)) fun steps1 h_steps1 => ?_
    refine qg_set 1 (EvX.get (α := Int) (ev_3b (ev_ix (ev_var (i := 0) rfl) (ev_var (i := 1) rfl) (by exact hbd))) (by first | exact hc0 | exact r1)) rfl fun at_1 h_at_1 => ?_
    refine q_next (at_mid (.k (.k (.k .n))) ⟨(steps1, at_1), by rfl, ?_, ?_⟩)
    · exact ⟨k2, by rw [h_steps1, h_at_1]; exact hI2⟩
    · show at_1.toNat < at_b.toNat; rw [h_at_1]; omega
  ·
    obtain ⟨steps_e, at_e⟩ := s0
    show At _ _ _ _ [.im found, .im at_e, .ow steps_e]
    obtain ⟨k, hI⟩ := hI0
    refine at_relL (i := 2) rfl ?_
    exact q_retLF (el_listRev (EvX.c (ev_var (i := 2) rfl))) ((hret _ _ (by exact hI.end_ hc0)).reb rb0)
end
theorem sc_two_run : FnScope ["book", "limit", "found", "at", "row"] ["book", "limit"] (defScope s_two_run) := ⟨rfl, rfl, rfl, by decide +kernel, rfl, by decide +kernel, by decide +kernel⟩
section
variable {P : Program} {w : World} {K : Fg} {mg : Str → Option Value} {base : Heap}
set_option maxHeartbeats 4000000 in
theorem ok_two_run {Y : XC → Addr} (T : Tx K mg Y) (c_reached : CalX P w K mg base 3 "reached" ["book", "first", "limit"] (spX K Y (fun (a : (T4 (Tp Bool) (Tp Bool) Int (Tp (T5 Int Int (Option Int) Int (Option Int)))) × (T4 Int Int (Tp Int) (Tp Int)) × Int × Unit) => (rchM a.1 a.2.1 a.2.2.1 : XC ⊕ (List (T3 (T4 Int Int (Tp Int) (Tp Int)) (Option Int) (Option Int))))) (fun a => (BookOk a.1 ∧ StOk a.1 a.2.1) ∧ 1 ≤ a.2.2.1 ∧ a.2.2.1 ≤ 1000))) (c_runners : Cal P w K mg base 1 "runners" ["book", "state"] (spF K (fun a : (T4 (Tp Bool) (Tp Bool) Int (Tp (T5 Int Int (Option Int) Int (Option Int)))) × (T4 Int Int (Tp Int) (Tp Int)) × Unit => rnsM a.1 a.2.1) (fun a => StOk a.1 a.2.1))) (c_steps_to : Cal P w K mg base 1 "steps_to" ["found", "at"] (spN K (fun a : (List (T3 (T4 Int Int (Tp Int) (Tp Int)) (Option Int) (Option Int))) × Int × Unit => stepsM a.1 a.2.1) (fun a => (∃ b : Book, RowsOk b firstS a.1) ∧ (0 ≤ a.2.1 ∧ a.2.1 < (a.1.length : Int)) ∧ a.1.length ≤ 1000))) : CalXD P w K mg base 4 "two_run" ["book", "limit"] "limit" (.int 200) (spXN K Y (fun (a : (T4 (Tp Bool) (Tp Bool) Int (Tp (T5 Int Int (Option Int) Int (Option Int)))) × Int × Unit) => (twoX a.1 a.2.1 : XC ⊕ (Str × (Sum (List Int) (List (T4 Int Int (Tp Int) (Tp Int))))))) (fun a => BookOk a.1 ∧ 1 ≤ a.2.1 ∧ a.2.1 ≤ 1000)) := by
  have nd := sc_two_run.nd
  refine def_spXN (k := 3) T.d_two_run sc_two_run rfl fun fa cdv A outer s H E hr => ?_
  refine ⟨_, pss_cons (ps_set (i := 2) nd rfl (.inl rfl) (pe_calX c_reached (takes_of rfl rfl rfl rfl) hr (by decide) (by rfl) (pa_cons (pv 0) (pa_cons (pe_globT (by rfl)) (pa_cons (pv 1) pa_nil)))))
      (pss_cons (ps_for (passes_of rfl) rfl (pi_enum (by rfl) T.n_enumerate (pa_cons (pv 2) pa_nil)) (pg_tup rfl (pgs_cons (pg_name (i := 3) nd rfl (.inl rfl)) (pgs_cons (pg_name (i := 4) nd rfl (.inl rfl)) (pgs_nil))))
      (pss_cons (ps_if (pt_cmpR op_eq (pe_callB call_lenG (by rfl) T.n_len (by decide +kernel) (pa_cons (pe_cal c_runners hr (by decide) (by rfl) (pa_cons (pv 0) (pa_cons (pe_ix (r := rIxT K) ix_tup (pv 4) pe_int (fun _ _ => rfl)) pa_nil))) pa_nil)) (pe_int) (nomark _)) (pss_cons (ps_ret (pe_tup (pa_cons (pe_str) (pa_cons (pe_cal c_steps_to hr (by decide) (by rfl) (pa_cons (pv 2) (pa_cons (pv 3) pa_nil))) pa_nil))))
      (pss_nil)) (pss_nil))
      (pss_nil)))
      (pss_cons (ps_ret (pe_tup (pa_cons (pe_str) (pa_cons (pe_lc (own := [("row", 4)]) (g := gName 4) (by rfl) nd (pi_list (pv 2)) (blkOk_by (N := ["book", "limit", "found", "at", "row"]) (sc := defScope s_two_run) (by decide +kernel)) (fun _ _ _ _ _ => pg_name (i := 4) nd rfl (.inl rfl) (.inr rfl)) (fun _ _ _ _ _ => pts_nil) (fun _ _ _ _ _ => pe_ix (r := rIxT K) ix_tup (pv 4) pe_int (fun _ _ => rfl))) pa_nil))))
      (pss_nil))), ?_⟩
  rintro ⟨book, limit, _⟩ hpre B S0 Q hret herr
  show At _ _ _ _ [.im book, .im limit, .no, .no, .no]
  obtain ⟨hbk, l0, l1⟩ := hpre
  dsimp only at hbk l0 l1
  have hf := first_ok hbk
  refine q_setX 2 (ea_cons (ev_var (i := 0) rfl) (ea_cons (ev_first T.g_FIRST) (ea_cons (ev_var (i := 1) rfl) (ea_nil)))) (by exact ⟨⟨hbk, hf⟩, l0, l1⟩) rfl (fun y h_y => ?_) (fun e_ he => ?_)
  ·
    show At _ _ _ _ [.im book, .im limit, .im y, .no, .no]
    have hrc := rch_ok hbk hf l0 h_y
    refine qg_forL (fun st_ : Unit => [.im book, .im limit, .im y, .no, .no]) (twoB book y) (fun _ => (Str.ofString "never", Sum.inr (y.map fun row => row.a))) () (twoR book y) (fun _ _ => True) (it_enum (ev_var (i := 2) rfl)) (.k (.k (.k (.d (.d .n))))) (by unfold twoR; rfl) (by trivial) (fun pre0 it post0 s0 ex0 hs0 hR0 Sb0 rb0 => ⟨_, _, tg_pair (tg_name rfl) (tg_name rfl), ?_⟩) (fun s0 hR0 hs0 => ?_)
    ·
      show At _ _ _ _ [.im book, .im limit, .im y, .im it.1, .im it.2]
      obtain ⟨hib, him⟩ := in_enumR ex0
      refine q_if (et_test (ev_eq (ev_len (EvX.c (ev_call (ea_cons (ev_var (i := 0) rfl) (ea_cons (ev_3a (ev_var (i := 4) rfl)) (ea_nil))) (by exact hrc.ok _ him)))) (ev_int))) (fun hb0 => ?_) (fun hb0 => ?_)
      ·
        exact q_retPC (fun z_ => (Sum.inl z_ : (Sum (List Int) (List (T4 Int Int (Tp Int) (Tp Int)))))) (fun h_ => h_) (fun h_ => h_) (ev_str) (ea_cons (ev_var (i := 2) rfl) (ea_cons (ev_var (i := 3) rfl) (ea_nil))) (by exact ⟨⟨book, hrc.ro⟩, hib, by have := hrc.le; dsimp only; omega⟩) (fun y_ hy_ => (hret _ _ (by rw [hy_]; exact two_inr h_y (forL_rt hR0 (two_rt hb0)).symm)).reb rb0)
      ·
        refine q_next ?_
        exact q_next (at_mid (.k (.k (.k (.d (.d .n))))) ⟨(), by rfl, forL_nx hR0 (by exact two_nx hb0), by trivial⟩)
    ·
      show At _ _ _ _ [.im book, .im limit, .im y, .no, .no]
      exact q_retPL (fun z_ => (Sum.inr z_ : (Sum (List Int) (List (T4 Int Int (Tp Int) (Tp Int)))))) (fun h_ => h_) (ev_str) (el_lcM _ (it_list (ev_var (i := 2) rfl)) (by have := hrc.le; omega) rfl (fun x1 hm_x1 => ⟨_, _, tg_name rfl, (by decide), ev_3a (ev_var (i := 4) rfl)⟩)) (hret _ _ (by exact two_inr h_y hR0.symm)) (fun h_ => h_)
  ·
    rcases rch_err he with ⟨rfl, hx_⟩
    ·
      exact herr _ _ (by exact two_inl he)
end
theorem sc__law_stir : FnScope ["cell", "k", "one"] ["cell", "k"] (defScope s__law_stir) := ⟨rfl, rfl, rfl, by decide +kernel, rfl, by decide +kernel, by decide +kernel⟩
section
variable {P : Program} {w : World} {K : Fg} {mg : Str → Option Value} {base : Heap}
set_option maxHeartbeats 4000000 in
theorem ok__law_stir {Y : XC → Addr} (T : Tx K mg Y)  : Cal P w K mg base 1 "_law_stir" ["cell", "k"] (spF K (fun a : Int × Int × Unit => stirM a.1 a.2.1) (fun a => 0 ≤ a.2.1 ∧ a.2.1 ≤ 1000)) := by
  have nd := sc__law_stir.nd
  refine def_spF (k := 0) T.d__law_stir sc__law_stir rfl fun fa cdv A outer s H E hr => ?_
  refine ⟨_, pss_cons (ps_set (i := 2) nd rfl (.inl rfl) (pe_op op_mod (pe_op op_add (pe_op op_mod (pv 0) (pe_int)) (pe_op op_mul (pe_int) (pe_op op_add (pv 1) (pe_int)))) (pe_int)))
      (pss_cons (ps_set (i := 2) nd rfl (.inl rfl) (pe_op op_mod (pe_op op_mul (pv 2) (pv 2)) (pe_int)))
      (pss_cons (ps_set (i := 2) nd rfl (.inl rfl) (pe_op op_mod (pe_op op_add (pe_op op_mul (pv 2) (pe_int)) (pe_op op_mul (pe_int) (pe_op op_add (pv 1) (pe_int)))) (pe_int)))
      (pss_cons (ps_ret (pe_op op_fdiv (pe_op op_mod (pe_op op_mul (pv 2) (pv 2)) (pe_int)) (pe_int)))
      (pss_nil)))), ?_⟩
  rintro ⟨cell, k, _⟩ hpre B S0 Q hret
  show At _ _ _ _ [.im cell, .im k, .no]
  obtain ⟨k0, k1⟩ := hpre
  dsimp only at k0 k1
  refine qg_set 2 (ev_iC (ev_i0 (ev_iC (ev_var (i := 0) rfl) (ev_int) (by first | decide | (show (0 : Int) < _; omega))) (ev_iC (ev_int) (ev_i0 (ev_var (i := 1) rfl) (ev_int)) (by first | exact .inl ⟨by decide, by decide⟩ | exact .inr ⟨by decide, by decide⟩ | exact .inl ⟨by omega, by omega⟩ | exact .inr ⟨by omega, by omega⟩))) (ev_int) (by first | decide | (show (0 : Int) < _; omega))) rfl fun one h_one => ?_
  refine qg_set 2 (ev_iC (ev_iC (ev_var (i := 2) rfl) (ev_var (i := 2) rfl) (by first | exact .inl ⟨by decide, by decide⟩ | exact .inr ⟨by decide, by decide⟩ | exact .inl ⟨by omega, by omega⟩ | exact .inr ⟨by omega, by omega⟩)) (ev_int) (by first | decide | (show (0 : Int) < _; omega))) rfl fun one1 h_one1 => ?_
  refine qg_set 2 (ev_iC (ev_i0 (ev_iC (ev_var (i := 2) rfl) (ev_int) (by first | exact .inl ⟨by decide, by decide⟩ | exact .inr ⟨by decide, by decide⟩ | exact .inl ⟨by omega, by omega⟩ | exact .inr ⟨by omega, by omega⟩)) (ev_iC (ev_int) (ev_i0 (ev_var (i := 1) rfl) (ev_int)) (by first | exact .inl ⟨by decide, by decide⟩ | exact .inr ⟨by decide, by decide⟩ | exact .inl ⟨by omega, by omega⟩ | exact .inr ⟨by omega, by omega⟩))) (ev_int) (by first | decide | (show (0 : Int) < _; omega))) rfl fun one2 h_one2 => ?_
  exact q_ret (ev_iC (ev_iC (ev_iC (ev_var (i := 2) rfl) (ev_var (i := 2) rfl) (by first | exact .inl ⟨by decide, by decide⟩ | exact .inr ⟨by decide, by decide⟩ | exact .inl ⟨by omega, by omega⟩ | exact .inr ⟨by omega, by omega⟩)) (ev_int) (by first | decide | (show (0 : Int) < _; omega))) (ev_int) (by first | exact ⟨by decide, by decide⟩ | exact ⟨by omega, by omega⟩)) (hret _ _ (by subst_vars; unfold stirM; rfl))
end
theorem sc__law_some : FnScope ["cell", "many", "found", "left", "great", "k"] ["cell", "many"] (defScope s__law_some) := ⟨rfl, rfl, rfl, by decide +kernel, rfl, by decide +kernel, by decide +kernel⟩
section
variable {P : Program} {w : World} {K : Fg} {mg : Str → Option Value} {base : Heap}
set_option maxHeartbeats 4000000 in
theorem ok__law_some {Y : XC → Addr} (T : Tx K mg Y) (c__law_stir : Cal P w K mg base 1 "_law_stir" ["cell", "k"] (spF K (fun a : Int × Int × Unit => stirM a.1 a.2.1) (fun a => 0 ≤ a.2.1 ∧ a.2.1 ≤ 1000))) : Cal P w K mg base 2 "_law_some" ["cell", "many"] (spF K (fun a : Int × Int × Unit => someB a.1 a.2.1) (fun a => 0 ≤ a.2.1 ∧ a.2.1 ≤ 1000)) := by
  have nd := sc__law_some.nd
  refine def_spF (k := 1) T.d__law_some sc__law_some rfl fun fa cdv A outer s H E hr => ?_
  refine ⟨_, pss_cons (ps_set (i := 2) nd rfl (.inl rfl) (pe_lst (pa_nil)))
      (pss_cons (ps_set (i := 3) nd rfl (.inl rfl) (pe_callB call_absI (by rfl) T.n_abs (by decide +kernel) (pa_cons (pv 0) pa_nil)))
      (pss_cons (ps_set (i := 4) nd rfl (.inl rfl) (pe_cmpR op_ge (pv 3) (pe_op op_pow (pe_int) (pe_int)) (nomark _)))
      (pss_cons (ps_for PassesOwn.never rfl (pi_range1 (by rfl) T.n_range (pa_cons (pv 1) pa_nil)) (pg_name (i := 5) nd rfl (.inl rfl))
      (Evl.pss_cut (ps_if (PW.pt (pw_and (pt_val (pv 4)) (pw_and1 (pt_cmpR op_gt (pv 3) (pe_int) (nomark _))))) (pss_cons (ps_expr (pe_bm PySem.F.plainAttrs_list PySem.F.slot_list_append PySem.F.type_list_append mt_append (pv 2) (pa_cons (pe_op op_mod (pv 3) (pe_int)) pa_nil)))
      (pss_cons (ps_set (i := 3) nd rfl (.inl rfl) (pe_op op_fdiv (pv 3) (pe_int)))
      (pss_nil))) (pss_cons (ps_expr (pe_bm PySem.F.plainAttrs_list PySem.F.slot_list_append PySem.F.type_list_append mt_append (pv 2) (pa_cons (pe_cal c__law_stir hr (by decide) (by rfl) (pa_cons (pv 0) (pa_cons (pv 5) pa_nil))) pa_nil)))
      (pss_nil)))
      (pss_nil)))
      (pss_cons (ps_ret (pv 2))
      (pss_nil))))), ?_⟩
  rintro ⟨cell, many, _⟩ hpre B S0 Q hret
  show At _ _ _ _ [.im cell, .im many, .no, .no, .no, .no]
  obtain ⟨k0, k1⟩ := hpre
  dsimp only at k0 k1
  refine qg_own 2 (el_lst (els_nil (α := Int)) (by simp)) rfl fun found h_found => ?_
  refine qg_set 3 (ev_abs (ev_var (i := 0) rfl)) rfl fun left h_left => ?_
  refine qg_set 4 (ev_b0 (ev_var (i := 3) rfl) (ev_iC (ev_int) (ev_int) (by exact ⟨by decide, by decide, by decide⟩))) rfl fun great h_great => ?_
  refine qg_fold (fun st_ : (List Int) × Int => [.im cell, .im many, .ow st_.1, .im st_.2, .im great, .no]) (someStep great cell) (found, left) (it_rng1 (ev_var (i := 1) rfl) (by first | omega | (dsimp only; omega))) (.k (.k (.k (.k (.k (.d .n)))))) (fun pre0 k post0 s0 ex0 hs0 Sb0 rb0 => ⟨_, _, tg_name rfl, ?_⟩) (fun s0 hs0 => ?_)
  ·
    obtain ⟨found_b, left_b⟩ := s0
    show At _ _ _ _ [.im cell, .im many, .ow found_b, .im left_b, .im great, .im k]
    have hz := some_sz hs0 h_found ex0 k1
    refine q_cutI (fun st_ : (List Int) × Int => [.im cell, .im many, .ow st_.1, .im st_.2, .im great, .im k]) (fun st => st = someStep great cell (found_b, left_b) k) ?_ (fun sI0 hI_0 => ?_)
    · refine q_ifc (et_and (et_B (ev_var (i := 4) rfl)) (fun hc => et_test (ev_b0 (ev_var (i := 3) rfl) (ev_int)))) (fun hb0 => ?_) (fun hb0 => ?_)
      ·
        refine qg_app 2 rfl (ev_iC (ev_var (i := 3) rfl) (ev_int) (by first | decide | (show (0 : Int) < _; omega))) rfl (by exact lt_lineK hz.1) fun found1 h_found1 => ?_
        refine qg_set 3 (ev_iC (ev_var (i := 3) rfl) (ev_int) (by exact ⟨by decide, by decide⟩)) rfl fun left1 h_left1 => ?_
        refine q_next ?_
        exact at_mid (.k (.k (.k (.k (.k (.k .n)))))) ⟨(found1, left1), rfl, by unfold someStep; rw [if_pos hb0]; subst_vars; rfl⟩
      ·
        refine qg_app 2 rfl (ev_call (ea_cons (ev_var (i := 0) rfl) (ea_cons (ev_var (i := 5) rfl) (ea_nil))) (by exact hz.2)) rfl (by exact lt_lineK hz.1) fun found2 h_found2 => ?_
        refine q_next ?_
        exact at_mid (.k (.k (.k (.k (.k (.k .n)))))) ⟨(found2, left_b), rfl, by unfold someStep; rw [if_neg (by rw [hb0]; decide)]; subst_vars; rfl⟩
    ·
      obtain ⟨found3, left2⟩ := sI0
      show At _ _ _ _ [.im cell, .im many, .ow found3, .im left2, .im great, .im k]
      exact q_next (at_mid (.k (.k (.k (.k (.k (.d .n)))))) (by subst_vars; rw [← hI_0]))
  ·
    obtain ⟨found_e, left_e⟩ := s0
    show At _ _ _ _ [.im cell, .im many, .ow found_e, .im left_e, .im great, .no]
    refine at_relL (i := 2) rfl ?_
    exact q_ret (ev_var (i := 2) rfl) (hret _ _ (by subst_vars; exact congrArg Prod.fst hs0))
end
theorem sc__law_cell : FnScope ["script", "k"] ["script", "k"] (defScope s__law_cell) := ⟨rfl, rfl, rfl, by decide +kernel, rfl, by decide +kernel, by decide +kernel⟩
section
variable {P : Program} {w : World} {K : Fg} {mg : Str → Option Value} {base : Heap}
set_option maxHeartbeats 4000000 in
theorem ok__law_cell {Y : XC → Addr} (T : Tx K mg Y)  : Cal P w K mg base 1 "_law_cell" ["script", "k"] (spF K (fun a : Scr × Int × Unit => cellB a.1.l a.2.1) (fun a => 0 ≤ a.2.1 ∧ a.2.1 ≤ 1000)) := by
  have nd := sc__law_cell.nd
  refine def_spF (k := 0) T.d__law_cell sc__law_cell rfl fun fa cdv A outer s H E hr => ?_
  refine ⟨_, pss_cons (ps_if (pt_cmpR op_lt (pv 1) (pe_callB call_lenG (by rfl) T.n_len (by decide +kernel) (pa_cons (pv 0) pa_nil)) (nomark _)) (pss_cons (ps_ret (pe_ix (r := rIxL K) ix_list (pv 0) (pv 1) (fun _ _ => rfl)))
      (pss_nil)) (pss_nil))
      (pss_cons (ps_ret (pe_op op_add (pe_op op_add (pe_op op_mul (pe_int) (pv 1)) (pe_int)) (pe_callB call_lenG (by rfl) T.n_len (by decide +kernel) (pa_cons (pv 0) pa_nil))))
      (pss_nil)), ?_⟩
  rintro ⟨script, k, _⟩ hpre B S0 Q hret
  show At _ _ _ _ [.im script, .im k]
  obtain ⟨k0, k1⟩ := hpre
  dsimp only at k0 k1
  refine q_if (et_test (ev_b0 (ev_var (i := 1) rfl) (ev_lenS (ev_var (i := 0) rfl)))) (fun hb0 => ?_) (fun hb0 => ?_)
  ·
    exact q_ret (ev_ixS (ev_var (i := 0) rfl) (ev_var (i := 1) rfl) (by exact ⟨k0, by simpa using hb0⟩)) (hret _ _ (by unfold cellB; rw [if_pos (by simpa using hb0)]))
  ·
    refine q_next ?_
    exact q_ret (ev_i0 (ev_i0 (ev_iC (ev_int) (ev_var (i := 1) rfl) (by first | exact .inl ⟨by decide, by decide⟩ | exact .inr ⟨by decide, by decide⟩ | exact .inl ⟨by omega, by omega⟩ | exact .inr ⟨by omega, by omega⟩)) (ev_int)) (ev_lenS (ev_var (i := 0) rfl))) (hret _ _ (by unfold cellB; rw [if_neg (by simpa using hb0)]))
end
theorem sc__law_chain : FnScope ["turns", "letters", "rules", "turn", "giver", "letter"] ["turns", "letters"] (defScope s__law_chain) := ⟨rfl, rfl, rfl, by decide +kernel, rfl, by decide +kernel, by decide +kernel⟩
section
variable {P : Program} {w : World} {K : Fg} {mg : Str → Option Value} {base : Heap}
set_option maxHeartbeats 4000000 in
theorem ok__law_chain {Y : XC → Addr} (T : Tx K mg Y)  : Cal P w K mg base 1 "_law_chain" ["turns", "letters"] (spN K (fun a : Int × Int × Unit => chainM a.1 a.2.1) (fun a => 0 ≤ a.1 ∧ a.1 ≤ 100 ∧ 1 ≤ a.2.1 ∧ a.2.1 ≤ 100)) := by
  have nd := sc__law_chain.nd
  refine def_spN (k := 0) T.d__law_chain sc__law_chain rfl fun fa cdv A outer s H E hr => ?_
  refine ⟨_, pss_cons (ps_set (i := 2) nd rfl (.inl rfl) (pe_lst (pa_nil)))
      (pss_cons (ps_for PassesOwn.never rfl (pi_range1 (by rfl) T.n_range (pa_cons (pv 0) pa_nil)) (pg_name (i := 3) nd rfl (.inl rfl))
      (pss_cons (ps_set (i := 4) nd rfl (.inl rfl) (pe_op op_mod (pv 3) (pe_int)))
      (pss_cons (ps_set (i := 5) nd rfl (.inl rfl) (pe_op op_mod (pe_op op_fdiv (pv 3) (pe_int)) (pv 1)))
      (pss_cons (ps_expr (pe_bm PySem.F.plainAttrs_list PySem.F.slot_list_append PySem.F.type_list_append mt_append (pv 2) (pa_cons (pe_tup (pa_cons (pv 4) (pa_cons (pv 3) (pa_cons (pe_non) (pa_cons (pe_op op_add (pv 3) (pe_int)) (pa_cons (pv 5) pa_nil)))))) pa_nil)))
      (pss_cons (ps_expr (pe_bm PySem.F.plainAttrs_list PySem.F.slot_list_append PySem.F.type_list_append mt_append (pv 2) (pa_cons (pe_tup (pa_cons (pe_op op_sub (pe_int) (pv 4)) (pa_cons (pv 3) (pa_cons (pv 5) (pa_cons (pe_op op_add (pv 3) (pe_int)) (pa_cons (pe_non) pa_nil)))))) pa_nil)))
      (pss_nil))))))
      (pss_cons (ps_ret (pv 2))
      (pss_nil))), ?_⟩
  rintro ⟨turns, letters, _⟩ hpre B S0 Q hret
  show At _ _ _ _ [.im turns, .im letters, .no, .no, .no, .no]
  obtain ⟨t0, t1, l0, l1⟩ := hpre
  dsimp only at t0 t1 l0 l1
  refine qg_own 2 (el_lst (els_nil (α := (T5 Int Int (Option Int) Int (Option Int)))) (by simp)) rfl fun rules h_rules => ?_
  refine qg_fold (fun st_ : (List (T5 Int Int (Option Int) Int (Option Int))) => [.im turns, .im letters, .ow st_, .no, .no, .no]) (chainStep letters) rules (it_rng1 (ev_var (i := 0) rfl) (by first | omega | (dsimp only; omega))) (.k (.k (.k (.d (.d (.d .n)))))) (fun pre0 turn post0 s0 ex0 hs0 Sb0 rb0 => ⟨_, _, tg_name rfl, ?_⟩) (fun s0 hs0 => ?_)
  ·
    show At _ _ _ _ [.im turns, .im letters, .ow s0, .im turn, .no, .no]
    have hz := chain_sz hs0 h_rules ex0 t1
    refine qg_set 4 (ev_iC (ev_var (i := 3) rfl) (ev_int) (by first | decide | (show (0 : Int) < _; omega))) rfl fun giver h_giver => ?_
    refine qg_set 5 (ev_iC (ev_iC (ev_var (i := 3) rfl) (ev_int) (by first | exact ⟨by decide, by decide⟩ | exact ⟨by omega, by omega⟩)) (ev_var (i := 1) rfl) (by first | decide | (show (0 : Int) < _; omega))) rfl fun letter h_letter => ?_
    refine qg_app 2 rfl (ev_t5 (ev_var (i := 4) rfl) (ev_var (i := 3) rfl) (ev_none (α := Int)) (ev_i0 (ev_var (i := 3) rfl) (ev_int)) (EvX.some (ev_var (i := 5) rfl))) rfl (by exact lt_lineK hz.1) fun rules1 h_rules1 => ?_
    refine qg_app 2 rfl (ev_t5 (ev_i0 (ev_int) (ev_var (i := 4) rfl)) (ev_var (i := 3) rfl) (EvX.some (ev_var (i := 5) rfl)) (ev_i0 (ev_var (i := 3) rfl) (ev_int)) (ev_none (α := Int))) rfl (by rw [h_rules1, List.length_append, List.length_singleton]; have := hz.1; exact Nat.lt_of_lt_of_le (by omega : _ < 1002) (by decide)) fun rules2 h_rules2 => ?_
    exact q_next (at_mid (.k (.k (.k (.d (.d (.d .n)))))) (by subst_vars; rfl))
  ·
    show At _ _ _ _ [.im turns, .im letters, .ow s0, .no, .no, .no]
    refine at_relF (i := 2) rfl ?_
    exact q_ret (ev_var (i := 2) rfl) (hret _ _ (by subst_vars; rfl))
end
theorem sc__law_rule : FnScope ["some", "many", "letters", "house", "heard", "said"] ["some", "many", "letters"] (defScope s__law_rule) := ⟨rfl, rfl, rfl, by decide +kernel, rfl, by decide +kernel, by decide +kernel⟩
section
variable {P : Program} {w : World} {K : Fg} {mg : Str → Option Value} {base : Heap}
set_option maxHeartbeats 4000000 in
theorem ok__law_rule {Y : XC → Addr} (T : Tx K mg Y)  : Cal P w K mg base 1 "_law_rule" ["some", "many", "letters"] (spF K (fun a : (List Int) × (Int × Int) × Int × Unit => ruleM a.1 a.2.1 a.2.2.1) (fun a => a.1.length = 9 ∧ (1 ≤ a.2.1.1 ∧ a.2.1.1 ≤ 100) ∧ (1 ≤ a.2.1.2 ∧ a.2.1.2 ≤ 100) ∧ 1 ≤ a.2.2.1 ∧ a.2.2.1 ≤ 100)) := by
  have nd := sc__law_rule.nd
  refine def_spF (k := 0) T.d__law_rule sc__law_rule rfl fun fa cdv A outer s H E hr => ?_
  refine ⟨_, pss_cons (ps_set (i := 3) nd rfl (.inl rfl) (pe_op op_mod (pe_ix (r := rIxL K) ix_list (pv 0) (pe_int) (fun _ _ => rfl)) (pe_int)))
      (pss_cons (ps_set (i := 4) nd rfl (.inl rfl) (pe_ix (r := rIxL K) ix_list (pe_lst (pa_cons (pe_non) (pa_cons (pe_non) (pa_cons (pe_op op_mod (pe_ix (r := rIxL K) ix_list (pv 0) (pe_int) (fun _ _ => rfl)) (pv 2)) pa_nil)))) (pe_op op_mod (pe_ix (r := rIxL K) ix_list (pv 0) (pe_int) (fun _ _ => rfl)) (pe_int)) (fun _ _ => rfl)))
      (pss_cons (ps_set (i := 5) nd rfl (.inl rfl) (pe_ix (r := rIxL K) ix_list (pe_lst (pa_cons (pe_non) (pa_cons (pe_op op_mod (pe_ix (r := rIxL K) ix_list (pv 0) (pe_int) (fun _ _ => rfl)) (pv 2)) pa_nil))) (pe_op op_mod (pe_ix (r := rIxL K) ix_list (pv 0) (pe_int) (fun _ _ => rfl)) (pe_int)) (fun _ _ => rfl)))
      (pss_cons (ps_ret (pe_tup (pa_cons (pv 3) (pa_cons (pe_op op_mod (pe_ix (r := rIxL K) ix_list (pv 0) (pe_int) (fun _ _ => rfl)) (pe_ix (r := rIxT K) ix_tup (pv 1) (pv 3) (fun _ _ => rfl))) (pa_cons (pv 4) (pa_cons (pe_op op_mod (pe_ix (r := rIxL K) ix_list (pv 0) (pe_int) (fun _ _ => rfl)) (pe_ix (r := rIxT K) ix_tup (pv 1) (pv 3) (fun _ _ => rfl))) (pa_cons (pv 5) pa_nil)))))))
      (pss_nil)))), ?_⟩
  rintro ⟨some, many, letters, _⟩ hpre B S0 Q hret
  show At _ _ _ _ [.im some, .im many, .im letters, .no, .no, .no]
  obtain ⟨hl, ⟨m0, m1⟩, ⟨m2, m3⟩, l0, l1⟩ := hpre
  dsimp only at hl m0 m1 m2 m3 l0 l1
  refine qg_set 3 (ev_iC (ev_ix (ev_var (i := 0) rfl) (ev_int) (by exact ⟨by decide, by rw [hl]; decide⟩)) (ev_int) (by first | decide | (show (0 : Int) < _; omega))) rfl fun house h_house => ?_
  refine qg_set 4 (ev_ix (EvL.ev (el_lst (els_cons (ev_none (α := Int)) (els_cons (ev_none (α := Int)) (els_cons (EvX.some (ev_iC (ev_ix (ev_var (i := 0) rfl) (ev_int) (by exact ⟨by decide, by rw [hl]; decide⟩)) (ev_var (i := 2) rfl) (by omega))) (els_nil)))) (by simp))) (ev_iC (ev_ix (ev_var (i := 0) rfl) (ev_int) (by exact ⟨by decide, by rw [hl]; decide⟩)) (ev_int) (by first | decide | (show (0 : Int) < _; omega))) (by exact modB (by decide))) rfl fun heard h_heard => ?_
  refine qg_set 5 (ev_ix (EvL.ev (el_lst (els_cons (ev_none (α := Int)) (els_cons (EvX.some (ev_iC (ev_ix (ev_var (i := 0) rfl) (ev_int) (by exact ⟨by decide, by rw [hl]; decide⟩)) (ev_var (i := 2) rfl) (by omega))) (els_nil))) (by simp))) (ev_iC (ev_ix (ev_var (i := 0) rfl) (ev_int) (by exact ⟨by decide, by rw [hl]; decide⟩)) (ev_int) (by first | decide | (show (0 : Int) < _; omega))) (by exact modB (by decide))) rfl fun said h_said => ?_
  exact q_ret (ev_t5 (ev_var (i := 3) rfl) (ev_iC (ev_ix (ev_var (i := 0) rfl) (ev_int) (by exact ⟨by decide, by rw [hl]; decide⟩)) (ev_pixI (ev_var (i := 1) rfl) (ev_var (i := 3) rfl) (by rw [h_house]; exact modB (by decide))) (by (have := pixI_le (n := house) m0 m2; omega))) (ev_var (i := 4) rfl) (ev_iC (ev_ix (ev_var (i := 0) rfl) (ev_int) (by exact ⟨by decide, by rw [hl]; decide⟩)) (ev_pixI (ev_var (i := 1) rfl) (ev_var (i := 3) rfl) (by rw [h_house]; exact modB (by decide))) (by (have := pixI_le (n := house) m0 m2; omega))) (ev_var (i := 5) rfl)) (hret _ _ (by subst_vars; rfl))
end
theorem sc__law_book : FnScope ["script", "some", "turns", "letters", "rules", "many", "k", "cell", "one", "old", "new", "stand"] ["script"] (defScope s__law_book) := ⟨rfl, rfl, rfl, by decide +kernel, rfl, by decide +kernel, by decide +kernel⟩
section
variable {P : Program} {w : World} {K : Fg} {mg : Str → Option Value} {base : Heap}
set_option maxHeartbeats 4000000 in
theorem ok__law_book {Y : XC → Addr} (T : Tx K mg Y) (c__law_cell : Cal P w K mg base 1 "_law_cell" ["script", "k"] (spF K (fun a : Scr × Int × Unit => cellB a.1.l a.2.1) (fun a => 0 ≤ a.2.1 ∧ a.2.1 ≤ 1000))) (c__law_chain : Cal P w K mg base 1 "_law_chain" ["turns", "letters"] (spN K (fun a : Int × Int × Unit => chainM a.1 a.2.1) (fun a => 0 ≤ a.1 ∧ a.1 ≤ 100 ∧ 1 ≤ a.2.1 ∧ a.2.1 ≤ 100))) (c__law_rule : Cal P w K mg base 1 "_law_rule" ["some", "many", "letters"] (spF K (fun a : (List Int) × (Int × Int) × Int × Unit => ruleM a.1 a.2.1 a.2.2.1) (fun a => a.1.length = 9 ∧ (1 ≤ a.2.1.1 ∧ a.2.1.1 ≤ 100) ∧ (1 ≤ a.2.1.2 ∧ a.2.1.2 ≤ 100) ∧ 1 ≤ a.2.2.1 ∧ a.2.2.1 ≤ 100))) (c__law_some : Cal P w K mg base 2 "_law_some" ["cell", "many"] (spF K (fun a : Int × Int × Unit => someB a.1 a.2.1) (fun a => 0 ≤ a.2.1 ∧ a.2.1 ≤ 1000))) : Cal P w K mg base 3 "_law_book" ["script"] (spQ K (fun (a : Scr × Unit) (y : (T4 (Tp Bool) (Tp Bool) Int (Tp (T5 Int Int (Option Int) Int (Option Int))))) => BookOk y) (fun a => a.1.l.length ≤ 63)) := by
  have nd := sc__law_book.nd
  refine def_spQ (k := 2) T.d__law_book sc__law_book rfl fun fa cdv A outer s H E hr => ?_
  refine ⟨_, pss_cons (ps_set (i := 1) nd rfl (.inl rfl) (pe_cal c__law_some hr (by decide) (by rfl) (pa_cons (pe_cal c__law_cell hr (by decide) (by rfl) (pa_cons (pv 0) (pa_cons (pe_int) pa_nil))) (pa_cons (pe_int) pa_nil))))
      (pss_cons (ps_set (i := 2) nd rfl (.inl rfl) (pe_op op_mod (pe_ix (r := rIxL K) ix_list (pv 1) (pe_int) (fun _ _ => rfl)) (pe_int)))
      (pss_cons (ps_set (i := 3) nd rfl (.inl rfl) (pe_op op_add (pe_int) (pe_op op_mod (pe_ix (r := rIxL K) ix_list (pv 1) (pe_int) (fun _ _ => rfl)) (pe_int))))
      (pss_cons (ps_set (i := 4) nd rfl (.inl rfl) (pe_cal c__law_chain hr (by decide) (by rfl) (pa_cons (pv 2) (pa_cons (pv 3) pa_nil))))
      (pss_cons (ps_set (i := 5) nd rfl (.inl rfl) (pe_tup (pa_cons (pe_op op_add (pe_op op_add (pv 2) (pe_int)) (pe_op op_mod (pe_ix (r := rIxL K) ix_list (pv 1) (pe_int) (fun _ _ => rfl)) (pe_int))) (pa_cons (pe_op op_add (pe_op op_add (pv 2) (pe_int)) (pe_op op_mod (pe_ix (r := rIxL K) ix_list (pv 1) (pe_int) (fun _ _ => rfl)) (pe_int))) pa_nil))))
      (Evl.pss_cut (ps_if (PW.pt (pw_and (pt_cmpR op_eq (pe_op op_mod (pe_ix (r := rIxL K) ix_list (pv 1) (pe_int) (fun _ _ => rfl)) (pe_int)) (pe_int) (nomark _)) (pw_and1 (pt_cmpR (op_neD hr.units) (pv 4) (pe_lst (pa_nil)) (nomark _))))) (pss_cons (ps_expr (pe_bm PySem.F.plainAttrs_list PySem.F.slot_list_pop PySem.F.type_list_pop mt_popAt (pv 4) (pa_cons (pe_op op_mod (pe_ix (r := rIxL K) ix_list (pv 1) (pe_int) (fun _ _ => rfl)) (pe_callB call_lenG (by rfl) T.n_len (by decide +kernel) (pa_cons (pv 4) pa_nil))) pa_nil)))
      (pss_nil)) (pss_nil))
      (pss_cons (ps_for PassesOwn.never rfl (pi_enum (by rfl) T.n_enumerate (pa_cons (pe_slice sl_list (pv 0) (po_some (pe_int)) (po_some (pe_int))) pa_nil)) (pg_tup rfl (pgs_cons (pg_name (i := 6) nd rfl (.inl rfl)) (pgs_cons (pg_name (i := 7) nd rfl (.inl rfl)) (pgs_nil))))
      (pss_cons (ps_set (i := 8) nd rfl (.inl rfl) (pe_cal c__law_some hr (by decide) (by rfl) (pa_cons (pv 7) (pa_cons (pe_int) pa_nil))))
      (Evl.pss_cut (ps_if (pt_cmpR op_gt (pe_op op_mod (pe_ix (r := rIxL K) ix_list (pv 8) (pe_int) (fun _ _ => rfl)) (pe_int)) (pe_int) (nomark _)) (pss_cons (ps_expr (pe_bm PySem.F.plainAttrs_list PySem.F.slot_list_insert PySem.F.type_list_insert mt_ins (pv 4) (pa_cons (pe_op op_mod (pe_ix (r := rIxL K) ix_list (pv 8) (pe_int) (fun _ _ => rfl)) (pe_op op_add (pe_callB call_lenG (by rfl) T.n_len (by decide +kernel) (pa_cons (pv 4) pa_nil)) (pe_int))) (pa_cons (pe_cal c__law_rule hr (by decide) (by rfl) (pa_cons (pv 8) (pa_cons (pv 5) (pa_cons (pv 3) pa_nil)))) pa_nil))))
      (pss_nil)) (pss_nil))
      (pss_nil))))
      (pss_cons (ps_set (i := 9) nd rfl (.inl rfl) (pe_op op_cat (pe_lc (own := [("stand", 11)]) (g := gName 11) (by rfl) nd (pi_range1 (by rfl) T.n_range (pa_cons (pe_op op_add (pv 2) (pe_int)) pa_nil)) (blkOk_by (N := ["script", "some", "turns", "letters", "rules", "many", "k", "cell", "one", "old", "new", "stand"]) (sc := defScope s__law_book) (by decide +kernel)) (fun _ _ _ _ _ => pg_name (i := 11) nd rfl (.inl rfl) (.inr rfl)) (fun _ _ _ _ _ => pts_nil) (fun _ _ _ _ _ => pe_cmpR op_eq (pe_op op_mod (pv 11) (pe_int)) (pe_int) (nomark _))) (pe_lc (own := [("one", 8)]) (g := gName 8) (by rfl) nd (pi_list (pe_slice sl_list (pv 1) (po_some (pe_int)) (po_some (pe_op op_sub (pe_op op_sub (pe_op op_add (pe_int) (pe_ix (r := rIxT K) ix_tup (pv 5) pe_int (fun _ _ => rfl))) (pv 2)) (pe_int))))) (blkOk_by (N := ["script", "some", "turns", "letters", "rules", "many", "k", "cell", "one", "old", "new", "stand"]) (sc := defScope s__law_book) (by decide +kernel)) (fun _ _ _ _ _ => pg_name (i := 8) nd rfl (.inl rfl) (.inr rfl)) (fun _ _ _ _ _ => pts_nil) (fun _ _ _ _ _ => pe_cmpR op_eq (pe_op op_mod (pv 8) (pe_int)) (pe_int) (nomark _)))))
      (pss_cons (ps_set (i := 10) nd rfl (.inl rfl) (pe_op op_cat (pe_lc (own := [("stand", 11)]) (g := gName 11) (by rfl) nd (pi_range1 (by rfl) T.n_range (pa_cons (pe_op op_add (pv 2) (pe_int)) pa_nil)) (blkOk_by (N := ["script", "some", "turns", "letters", "rules", "many", "k", "cell", "one", "old", "new", "stand"]) (sc := defScope s__law_book) (by decide +kernel)) (fun _ _ _ _ _ => pg_name (i := 11) nd rfl (.inl rfl) (.inr rfl)) (fun _ _ _ _ _ => pts_nil) (fun _ _ _ _ _ => pe_cmpR op_eq (pe_op op_mod (pv 11) (pe_int)) (pe_int) (nomark _))) (pe_lc (own := [("one", 8)]) (g := gName 8) (by rfl) nd (pi_list (pe_slice sl_list (pv 1) (po_some (pe_int)) (po_some (pe_op op_sub (pe_op op_sub (pe_op op_add (pe_int) (pe_ix (r := rIxT K) ix_tup (pv 5) pe_int (fun _ _ => rfl))) (pv 2)) (pe_int))))) (blkOk_by (N := ["script", "some", "turns", "letters", "rules", "many", "k", "cell", "one", "old", "new", "stand"]) (sc := defScope s__law_book) (by decide +kernel)) (fun _ _ _ _ _ => pg_name (i := 8) nd rfl (.inl rfl) (.inr rfl)) (fun _ _ _ _ _ => pts_nil) (fun _ _ _ _ _ => pe_cmpR op_eq (pe_op op_mod (pv 8) (pe_int)) (pe_int) (nomark _)))))
      (pss_cons (ps_asg (pe_cmpR op_gt (pe_op op_mod (pe_ix (r := rIxL K) ix_list (pv 1) (pe_int) (fun _ _ => rfl)) (pe_int)) (pe_int) (nomark _)) (pg_sub (pv 9) (pe_int) set_list))
      (pss_cons (ps_asg (pe_cmpR op_eq (pe_op op_mod (pe_ix (r := rIxL K) ix_list (pv 1) (pe_int) (fun _ _ => rfl)) (pe_int)) (pe_int) (nomark _)) (pg_sub (pv 10) (pe_int) set_list))
      (pss_cons (ps_ret (pe_tup (pa_cons (pe_callTy call_tupG (by rfl) T.n_tuple (by decide +kernel) (pa_cons (pv 9) pa_nil)) (pa_cons (pe_callTy call_tupG (by rfl) T.n_tuple (by decide +kernel) (pa_cons (pv 10) pa_nil)) (pa_cons (pe_op op_add (pv 3) (pe_op op_mod (pe_ix (r := rIxL K) ix_list (pv 1) (pe_int) (fun _ _ => rfl)) (pe_int))) (pa_cons (pe_callTy call_tupG (by rfl) T.n_tuple (by decide +kernel) (pa_cons (pv 4) pa_nil)) pa_nil))))))
      (pss_nil)))))))))))), ?_⟩
  rintro ⟨script, _⟩ hpre B S0 Q hret
  show At _ _ _ _ [.im script, .no, .no, .no, .no, .no, .no, .no, .no, .no, .no, .no]
  dsimp only at hpre
  refine qg_set 1 (ev_call (ea_cons (ev_call (ea_cons (ev_var (i := 0) rfl) (ea_cons (ev_int) (ea_nil))) (by exact ⟨by dsimp only; decide, by dsimp only; decide⟩)) (ea_cons (ev_int) (ea_nil))) (by exact ⟨by dsimp only; decide, by dsimp only; decide⟩)) rfl fun some h_some => ?_
  have hsl : some.length = 30 := by rw [h_some]; exact someB_len
  refine qg_set 2 (ev_iC (ev_ix (ev_var (i := 1) rfl) (ev_int) (by exact ⟨by decide, by rw [hsl]; decide⟩)) (ev_int) (by first | decide | (show (0 : Int) < _; omega))) rfl fun turns h_turns => ?_
  have ht : 0 ≤ turns ∧ turns < 6 := by rw [h_turns]; exact modB (by decide)
  refine qg_set 3 (ev_i0 (ev_int) (ev_iC (ev_ix (ev_var (i := 1) rfl) (ev_int) (by exact ⟨by decide, by rw [hsl]; decide⟩)) (ev_int) (by first | decide | (show (0 : Int) < _; omega)))) rfl fun letters h_letters => ?_
  have hl : 1 ≤ letters ∧ letters ≤ 3 := by have := modB (a := ix some 1) (m := 3) (by decide); omega
  clear h_some h_turns h_letters
  show At _ _ _ _ [.im script, .im some, .im turns, .im letters, .no, .no, .no, .no, .no, .no, .no, .no]
  refine q_ownN 4 (ea_cons (ev_var (i := 2) rfl) (ea_cons (ev_var (i := 3) rfl) (ea_nil))) (by exact ⟨ht.1, by show turns ≤ 100; omega, hl.1, by show letters ≤ 100; omega⟩) rfl fun rules h_rules => ?_
  refine qg_set 5 (ev_pair (ev_i0 (ev_i0 (ev_var (i := 2) rfl) (ev_int)) (ev_iC (ev_ix (ev_var (i := 1) rfl) (ev_int) (by exact ⟨by decide, by rw [hsl]; decide⟩)) (ev_int) (by first | decide | (show (0 : Int) < _; omega)))) (ev_i0 (ev_i0 (ev_var (i := 2) rfl) (ev_int)) (ev_iC (ev_ix (ev_var (i := 1) rfl) (ev_int) (by exact ⟨by decide, by rw [hsl]; decide⟩)) (ev_int) (by first | decide | (show (0 : Int) < _; omega))))) rfl fun many h_many => ?_
  have hm : turns + 1 ≤ many.1 ∧ many.1 ≤ turns + 3 ∧ turns + 1 ≤ many.2 ∧ many.2 ≤ turns + 3 := by
    have h2 := modB (a := ix some 2) (m := 3) (by decide)
    have h3 := modB (a := ix some 3) (m := 3) (by decide)
    rw [h_many]; dsimp only; omega
  clear h_many
  have hc := chainM_ok (many := many) hl.1 hm.1 hm.2.2.1
  have hr : (∀ r ∈ rules, RuleOk many letters r) ∧ rules.length ≤ 10 := by rw [h_rules]; exact ⟨hc.1, by rw [hc.2]; omega⟩
  clear h_rules hc
  refine q_cutI (fun st_ : (List (T5 Int Int (Option Int) Int (Option Int))) => [.im script, .im some, .im turns, .im letters, .ow st_, .im many, .no, .no, .no, .no, .no, .no]) (fun (st : List Rule) => (∀ r ∈ st, RuleOk many letters r) ∧ st.length ≤ 10) ?_ (fun sI0 hI_0 => ?_)
  · refine q_ifc (et_and (et_test (ev_eq (ev_iC (ev_ix (ev_var (i := 1) rfl) (ev_int) (by exact ⟨by decide, by rw [hsl]; decide⟩)) (ev_int) (by first | decide | (show (0 : Int) < _; omega))) (ev_int))) (fun hc => et_test (ev_neC (ec_own (i := 4) rfl) (EvL.c (el_lst (els_nil (α := (T5 Int Int (Option Int) Int (Option Int)))) (by simp))) (by decide)))) (fun hb0 => ?_) (fun hb0 => ?_)
    ·
      refine q_drop (ev_popAt (i := 4) rfl (ev_iC (ev_ix (ev_var (i := 1) rfl) (ev_int) (by exact ⟨by decide, by rw [hsl]; decide⟩)) (ev_len (ec_own (i := 4) rfl)) (by (have := and_ne hb0; omega))) rfl (by (have := and_ne hb0; exact modB (by omega))) (by (have := hr.2; omega))) ?_
      refine at_genO 4 rfl fun rules1 h_rules1 => ?_
      show At _ _ _ _ [.im script, .im some, .im turns, .im letters, .ow rules1, .im many, .no, .no, .no, .no, .no, .no]
      refine q_next ?_
      exact at_mid (.k (.k (.k (.k (.k (.k (.d (.d (.d (.d (.d (.d .n)))))))))))) ⟨rules1, rfl, by rw [h_rules1]; exact pop_ok hr⟩
    ·
      refine q_next ?_
      exact at_mid (.k (.k (.k (.k (.k (.k (.d (.d (.d (.d (.d (.d .n)))))))))))) ⟨rules, rfl, by exact hr⟩
  ·
    show At _ _ _ _ [.im script, .im some, .im turns, .im letters, .ow sI0, .im many, .no, .no, .no, .no, .no, .no]
    refine qg_inv (fun st_ : (List (T5 Int Int (Option Int) Int (Option Int))) => [.im script, .im some, .im turns, .im letters, .ow st_, .im many, .no, .no, .no, .no, .no, .no]) (fun pre (st : List Rule) => (∀ r ∈ st, RuleOk many letters r) ∧ st.length ≤ 10 + pre.length) sI0 (it_enum (EvL.ev (el_sliceS (ev_var (i := 0) rfl) (eo_some (ev_int)) (eo_some (ev_int))))) (.k (.k (.k (.k (.k (.k (.d (.d (.d (.d (.d (.d .n)))))))))))) (by exact hI_0) (fun pre0 it post0 s0 ex0 hs0 Sb0 rb0 => ⟨_, _, tg_pair (tg_name rfl) (tg_name rfl), ?_⟩) (fun s0 hs0 => ?_)
    ·
      show At _ _ _ _ [.im script, .im some, .im turns, .im letters, .ow s0, .im many, .im it.1, .im it.2, .no, .no, .no, .no]
      have he := enum_pre ex0 hpre
      refine qg_set 8 (ev_call (ea_cons (ev_var (i := 7) rfl) (ea_cons (ev_int) (ea_nil))) (by exact ⟨by dsimp only; decide, by dsimp only; decide⟩)) rfl fun one h_one => ?_
      have hol : one.length = 9 := by rw [h_one]; exact someB_len
      refine q_cutI (fun st_ : (List (T5 Int Int (Option Int) Int (Option Int))) => [.im script, .im some, .im turns, .im letters, .ow st_, .im many, .im it.1, .im it.2, .im one, .no, .no, .no]) (fun (st : List Rule) => (∀ r ∈ st, RuleOk many letters r) ∧ st.length ≤ 10 + pre0.length + 1) ?_ (fun sI1 hI_1 => ?_)
      · refine q_ifc (et_test (ev_b0 (ev_iC (ev_ix (ev_var (i := 8) rfl) (ev_int) (by exact ⟨by decide, by rw [hol]; decide⟩)) (ev_int) (by first | decide | (show (0 : Int) < _; omega))) (ev_int))) (fun hb1 => ?_) (fun hb1 => ?_)
        ·
          refine q_ins (i := 4) rfl (ev_iC (ev_ix (ev_var (i := 8) rfl) (ev_int) (by exact ⟨by decide, by rw [hol]; decide⟩)) (ev_i0 (ev_len (ec_own (i := 4) rfl)) (ev_int)) (by omega)) (ev_call (ea_cons (ev_var (i := 8) rfl) (ea_cons (ev_var (i := 5) rfl) (ea_cons (ev_var (i := 3) rfl) (ea_nil)))) (by exact ⟨hol, ⟨by dsimp only; omega, by dsimp only; omega⟩, ⟨by dsimp only; omega, by dsimp only; omega⟩, hl.1, by dsimp only; omega⟩)) rfl (by (have := hs0.2; exact lt_lineK (by omega))) (by (have := hs0.2; have := modB (a := ix one 8) (m := (s0.length : Int) + 1) (by omega); omega)) fun rules3 h_rules3 => ?_
          refine q_next ?_
          exact at_mid (.k (.k (.k (.k (.k (.k (.k (.k (.k (.d (.d (.d .n)))))))))))) ⟨rules3, rfl, by rw [h_rules3]; exact insL_ok hs0 (ruleM_ok (by omega) (by omega) hl.1)⟩
        ·
          refine q_next ?_
          exact at_mid (.k (.k (.k (.k (.k (.k (.k (.k (.k (.d (.d (.d .n)))))))))))) ⟨s0, rfl, by exact ⟨hs0.1, by have := hs0.2; omega⟩⟩
      ·
        show At _ _ _ _ [.im script, .im some, .im turns, .im letters, .ow sI1, .im many, .im it.1, .im it.2, .im one, .no, .no, .no]
        exact q_next (at_mid (.k (.k (.k (.k (.k (.k (.d (.d (.d (.d (.d (.d .n)))))))))))) ⟨sI1, by rfl, by rw [List.length_append]; exact hI_1⟩)
    ·
      show At _ _ _ _ [.im script, .im some, .im turns, .im letters, .ow s0, .im many, .no, .no, .no, .no, .no, .no]
      refine qg_own 9 (el_catX (EvL.ev (el_lcM _ (it_rng1 (ev_i0 (ev_var (i := 2) rfl) (ev_int)) (by first | omega | (dsimp only; omega))) (by rw [len_rng]; omega) rfl (fun x hm_x => ⟨_, _, tg_name rfl, (by decide), ev_eq (ev_iC (ev_var (i := 11) rfl) (ev_int) (by first | decide | (show (0 : Int) < _; omega))) (ev_int)⟩))) (EvL.ev (el_lcM _ (it_list (EvL.ev (el_slice (EvX.c (ev_var (i := 1) rfl)) (eo_some (ev_int)) (eo_some (ev_i0 (ev_i0 (ev_i0 (ev_int) (ev_fst (ev_var (i := 5) rfl))) (ev_var (i := 2) rfl)) (ev_int)))))) (by (have := cutL_len (xs := some) (lo := Option.some 6) (hi := Option.some (6 + many.1 - turns - 1)); omega)) rfl (fun x1 hm_x1 => ⟨_, _, tg_name rfl, (by decide), ev_eq (ev_iC (ev_var (i := 8) rfl) (ev_int) (by first | decide | (show (0 : Int) < _; omega))) (ev_int)⟩))) (by exact le_line (by rw [List.length_map, List.length_map, len_rng]; have := cutL_len (xs := some) (lo := Option.some 6) (hi := Option.some (6 + many.1 - turns - 1)); omega))) rfl fun old h_old => ?_
      have hlo : (old.length : Int) = many.1 := by rw [h_old, List.length_append, List.length_map, List.length_map, len_rng, cut_at (by decide) (by omega) (by rw [hsl]; omega)]; omega
      show At _ _ _ _ [.im script, .im some, .im turns, .im letters, .ow s0, .im many, .no, .no, .no, .ow old, .no, .no]
      refine qg_own 10 (el_catX (EvL.ev (el_lcM _ (it_rng1 (ev_i0 (ev_var (i := 2) rfl) (ev_int)) (by first | omega | (dsimp only; omega))) (by rw [len_rng]; omega) rfl (fun x2 hm_x2 => ⟨_, _, tg_name rfl, (by decide), ev_eq (ev_iC (ev_var (i := 11) rfl) (ev_int) (by first | decide | (show (0 : Int) < _; omega))) (ev_int)⟩))) (EvL.ev (el_lcM _ (it_list (EvL.ev (el_slice (EvX.c (ev_var (i := 1) rfl)) (eo_some (ev_int)) (eo_some (ev_i0 (ev_i0 (ev_i0 (ev_int) (ev_snd (ev_var (i := 5) rfl))) (ev_var (i := 2) rfl)) (ev_int)))))) (by (have := cutL_len (xs := some) (lo := Option.some 9) (hi := Option.some (9 + many.2 - turns - 1)); omega)) rfl (fun x3 hm_x3 => ⟨_, _, tg_name rfl, (by decide), ev_eq (ev_iC (ev_var (i := 8) rfl) (ev_int) (by first | decide | (show (0 : Int) < _; omega))) (ev_int)⟩))) (by exact le_line (by rw [List.length_map, List.length_map, len_rng]; have := cutL_len (xs := some) (lo := Option.some 9) (hi := Option.some (9 + many.2 - turns - 1)); omega))) rfl fun new h_new => ?_
      have hln : (new.length : Int) = many.2 := by rw [h_new, List.length_append, List.length_map, List.length_map, len_rng, cut_at (by decide) (by omega) (by rw [hsl]; omega)]; omega
      refine qg_setL 9 (ev_b0 (ev_iC (ev_ix (ev_var (i := 1) rfl) (ev_int) (by exact ⟨by decide, by rw [hsl]; decide⟩)) (ev_int) (by first | decide | (show (0 : Int) < _; omega))) (ev_int)) (ev_int) rfl rfl (by exact ⟨by decide, by omega⟩) fun old1 h_old1 => ?_
      refine qg_setL 10 (ev_eq (ev_iC (ev_ix (ev_var (i := 1) rfl) (ev_int) (by exact ⟨by decide, by rw [hsl]; decide⟩)) (ev_int) (by first | decide | (show (0 : Int) < _; omega))) (ev_int)) (ev_int) rfl rfl (by exact ⟨by decide, by omega⟩) fun new1 h_new1 => ?_
      refine at_relL (i := 4) rfl ?_
      refine at_relL (i := 9) rfl ?_
      refine at_relL (i := 10) rfl ?_
      exact q_ret (ev_t4 (ev_tup (EvX.c (ev_var (i := 9) rfl))) (ev_tup (EvX.c (ev_var (i := 10) rfl))) (ev_i0 (ev_var (i := 3) rfl) (ev_iC (ev_ix (ev_var (i := 1) rfl) (ev_int) (by exact ⟨by decide, by rw [hsl]; decide⟩)) (ev_int) (by first | decide | (show (0 : Int) < _; omega)))) (ev_tup (EvX.c (ev_var (i := 4) rfl)))) (hret _ _ (by exact book_ok hs0.1 (by have := hs0.2; have h9 : (enumI (cutL script.l (Option.some 1) (Option.some 9))).length ≤ 63 := (by rw [len_enumI]; exact Nat.le_trans cutL_len hpre); omega) (by rw [h_old1]; simpa using hlo) (by rw [h_new1]; simpa using hln) (by omega) hl (modB (by decide))))
end
theorem sc__law_can : FnScope ["state", "rule"] ["state", "rule"] (defScope s__law_can) := ⟨rfl, rfl, rfl, by decide +kernel, rfl, by decide +kernel, by decide +kernel⟩
section
variable {P : Program} {w : World} {K : Fg} {mg : Str → Option Value} {base : Heap}
set_option maxHeartbeats 4000000 in
theorem ok__law_can {Y : XC → Addr} (T : Tx K mg Y)  : Cal P w K mg base 1 "_law_can" ["state", "rule"] (spF K (fun a : (T4 Int Int (Tp Int) (Tp Int)) × (T5 Int Int (Option Int) Int (Option Int)) × Unit => canM a.1 a.2.1) (fun a => 0 ≤ a.2.1.a ∧ a.2.1.a < 2)) := by
  have nd := sc__law_can.nd
  refine def_spF (k := 0) T.d__law_can sc__law_can rfl fun fa cdv A outer s H E hr => ?_
  refine ⟨_, pss_cons (ps_ret (pe_and (pe_cmpR op_eq (pe_ix (r := rIxT K) ix_tup (pv 0) (pe_ix (r := rIxT K) ix_tup (pv 1) pe_int (fun _ _ => rfl)) (fun _ _ => rfl)) (pe_ix (r := rIxT K) ix_tup (pv 1) pe_int (fun _ _ => rfl)) (nomark _)) (pe_one (pe_or (pe_cmp (pc_isN (pe_ix (r := rIxT K) ix_tup (pv 1) pe_int (fun _ _ => rfl)))) (pe_one (pe_cmpR (r := rIn K false) op_in_seq (pe_ix (r := rIxT K) ix_tup (pv 1) pe_int (fun _ _ => rfl)) (pe_ix (r := rIxT K) ix_tup (pv 0) (pe_op op_sub (pe_int) (pe_ix (r := rIxT K) ix_tup (pv 1) pe_int (fun _ _ => rfl))) (fun _ _ => rfl)) (by rfl)))))))
      (pss_nil), ?_⟩
  rintro ⟨state, rule, _⟩ hpre B S0 Q hret
  show At _ _ _ _ [.im state, .im rule]
  obtain ⟨m0, m1⟩ := hpre
  dsimp only at m0 m1
  exact q_ret (ev_andV (ev_eq (ev_t4i (ev_var (i := 0) rfl) (ev_5a (ev_var (i := 1) rfl)) (by (try dsimp only); exact ⟨by omega, by omega⟩)) (ev_5b (ev_var (i := 1) rfl))) (fun hc => ev_orV (ev_isN (by exact nn_int) (ev_5c (ev_var (i := 1) rfl))) (fun hc => ev_inT (EvX.get (α := Int) (ev_5c (ev_var (i := 1) rfl)) (by exact isNone_false hc)) (ev_t4j (ev_var (i := 0) rfl) (ev_i0 (ev_int) (ev_5a (ev_var (i := 1) rfl))) (by (try dsimp only); exact ⟨by omega, by omega⟩))))) (hret _ _ (by unfold canM; rfl))
end
theorem sc__law_comes : FnScope ["state", "rule", "found", "said"] ["state", "rule"] (defScope s__law_comes) := ⟨rfl, rfl, rfl, by decide +kernel, rfl, by decide +kernel, by decide +kernel⟩
section
variable {P : Program} {w : World} {K : Fg} {mg : Str → Option Value} {base : Heap}
set_option maxHeartbeats 4000000 in
theorem ok__law_comes {Y : XC → Addr} (T : Tx K mg Y)  : Cal P w K mg base 1 "_law_comes" ["state", "rule"] (spF K (fun a : (T4 Int Int (Tp Int) (Tp Int)) × (T5 Int Int (Option Int) Int (Option Int)) × Unit => comesM a.1 a.2.1) (fun a => (0 ≤ a.2.1.a ∧ a.2.1.a < 2) ∧ (a.1.c.l.length ≤ 100 ∧ a.1.d.l.length ≤ 100))) := by
  have nd := sc__law_comes.nd
  refine def_spF (k := 0) T.d__law_comes sc__law_comes rfl fun fa cdv A outer s H E hr => ?_
  refine ⟨_, pss_cons (ps_set (i := 2) nd rfl (.inl rfl) (pe_callTy call_listG (by rfl) T.n_list (by decide +kernel) (pa_cons (pv 0) pa_nil)))
      (pss_cons (ps_asg (pe_ix (r := rIxT K) ix_tup (pv 1) pe_int (fun _ _ => rfl)) (pg_sub (pv 2) (pe_ix (r := rIxT K) ix_tup (pv 1) pe_int (fun _ _ => rfl)) set_list))
      (pss_cons (ps_set (i := 3) nd rfl (.inl rfl) (pe_ix (r := rIxT K) ix_tup (pv 0) (pe_op op_add (pe_int) (pe_ix (r := rIxT K) ix_tup (pv 1) pe_int (fun _ _ => rfl))) (fun _ _ => rfl)))
      (Evl.pss_cut (ps_if (PW.pt (pw_and (pt_cmp (pc_notN (pe_ix (r := rIxT K) ix_tup (pv 1) pe_int (fun _ _ => rfl)))) (pw_and1 (pt_cmpR (r := rIn K true) op_notIn_seq (pe_ix (r := rIxT K) ix_tup (pv 1) pe_int (fun _ _ => rfl)) (pv 3) (by rfl))))) (pss_cons (ps_asg (pe_callTy call_tupG (by rfl) T.n_tuple (by decide +kernel) (pa_cons (pe_callB cr_sortedTN (by rfl) T.n_sorted (by decide +kernel) (pa_cons (pe_op op_catA (pv 3) (pe_tup (pa_cons (pe_ix (r := rIxT K) ix_tup (pv 1) pe_int (fun _ _ => rfl)) pa_nil))) pa_nil)) pa_nil)) (pg_sub (pv 2) (pe_op op_add (pe_int) (pe_ix (r := rIxT K) ix_tup (pv 1) pe_int (fun _ _ => rfl))) set_list))
      (pss_nil)) (pss_nil))
      (pss_cons (ps_ret (pe_callTy call_tupG (by rfl) T.n_tuple (by decide +kernel) (pa_cons (pv 2) pa_nil)))
      (pss_nil))))), ?_⟩
  rintro ⟨state, rule, _⟩ hpre B S0 Q hret
  show At _ _ _ _ [.im state, .im rule, .no, .no]
  obtain ⟨⟨m0, m1⟩, f1, f2⟩ := hpre
  dsimp only at m0 m1 f1 f2
  refine qg_own 2 (el_listS (ev_var (i := 0) rfl)) rfl fun found h_found => ?_
  refine qg_setL 2 (EvX.inl (ev_5d (ev_var (i := 1) rfl))) (ev_5a (ev_var (i := 1) rfl)) rfl rfl (by (try rw [h_found1, List.length_set]); rw [h_found, sl4_len]; exact ⟨by omega, by show _ < (4 : Int); omega⟩) fun found1 h_found1 => ?_
  refine qg_set 3 (ev_t4j (ev_var (i := 0) rfl) (ev_i0 (ev_int) (ev_5a (ev_var (i := 1) rfl))) (by (try dsimp only); exact ⟨by omega, by omega⟩)) rfl fun said h_said => ?_
  refine q_cutI (fun st_ : (List (Sum Int (Tp Int))) => [.im state, .im rule, .ow st_, .im said]) (fun st => st = sl4 (comesM state rule)) ?_ (fun sI0 hI_0 => ?_)
  · refine q_ifc (et_and (et_B (ev_notN (by exact nn_int) (ev_5e (ev_var (i := 1) rfl)))) (fun hc => et_test (ev_ninT (EvX.get (α := Int) (ev_5e (ev_var (i := 1) rfl)) (by first | exact hc | exact (Bool.and_eq_true_iff.mp hb0).1)) (ev_var (i := 3) rfl)))) (fun hb0 => ?_) (fun hb0 => ?_)
    ·
      refine qg_setL 2 (EvX.inr (ev_tup (EvL.c (el_sortedTN (ev_catT (ev_var (i := 3) rfl) (ev_tp (els_cons (EvX.get (α := Int) (ev_5e (ev_var (i := 1) rfl)) (by first | exact hc | exact (Bool.and_eq_true_iff.mp hb0).1)) (els_nil)) (by simp)) (by have h9 : said.l.length ≤ 100 := (by rw [h_said]; unfold t4j; split <;> assumption); exact le_line (by simp only [List.length_cons, List.length_nil]; omega))))))) (ev_i0 (ev_int) (ev_5a (ev_var (i := 1) rfl))) rfl rfl (by (try rw [h_found1, List.length_set]); rw [h_found, sl4_len]; exact ⟨by omega, by show _ < (4 : Int); omega⟩) fun found2 h_found2 => ?_
      refine q_next ?_
      exact at_mid (.k (.k (.k (.k .n)))) ⟨found2, rfl, by rw [h_found2, h_found1, h_found, h_said]; exact comes_law1 ⟨m0, m1⟩ (by rw [← h_said]; exact hb0)⟩
    ·
      refine q_next ?_
      exact at_mid (.k (.k (.k (.k .n)))) ⟨found1, rfl, by rw [h_found1, h_found]; exact comes_law2 ⟨m0, m1⟩ (by rw [← h_said]; exact hb0)⟩
  ·
    show At _ _ _ _ [.im state, .im rule, .ow sI0, .im said]
    refine at_relL (i := 2) rfl ?_
    exact q_ret (EvX.st (comesM state rule) (ev_tup (EvX.c (ev_var (i := 2) rfl))) (by exact hI_0)) (hret _ _ (by rfl))
end
theorem sc__law_running : FnScope ["book", "state", "house"] ["book", "state"] (defScope s__law_running) := ⟨rfl, rfl, rfl, by decide +kernel, rfl, by decide +kernel, by decide +kernel⟩
section
variable {P : Program} {w : World} {K : Fg} {mg : Str → Option Value} {base : Heap}
set_option maxHeartbeats 4000000 in
theorem ok__law_running {Y : XC → Addr} (T : Tx K mg Y)  : Cal P w K mg base 1 "_law_running" ["book", "state"] (spF K (fun a : (T4 (Tp Bool) (Tp Bool) Int (Tp (T5 Int Int (Option Int) Int (Option Int)))) × (T4 Int Int (Tp Int) (Tp Int)) × Unit => rnsM a.1 a.2.1) (fun a => StOk a.1 a.2.1)) := by
  have nd := sc__law_running.nd
  refine def_spF (k := 0) T.d__law_running sc__law_running rfl fun fa cdv A outer s H E hr => ?_
  refine ⟨_, pss_cons (ps_ret (pe_lc (own := [("house", 2)]) (g := gName 2) (by rfl) nd (pi_range1 (by rfl) T.n_range (pa_cons (pe_int) pa_nil)) (blkOk_by (N := ["book", "state", "house"]) (sc := defScope s__law_running) (by decide +kernel)) (fun _ _ _ _ _ => pg_name (i := 2) nd rfl (.inl rfl) (.inr rfl)) (fun _ _ _ _ _ => pts_one (pt_val (pe_ix (r := rIxT K) ix_tup (pe_ix (r := rIxT K) ix_tup (pv 0) (pv 2) (fun _ _ => rfl)) (pe_ix (r := rIxT K) ix_tup (pv 1) (pv 2) (fun _ _ => rfl)) (fun _ _ => rfl)))) (fun _ _ _ _ _ => pv 2)))
      (pss_nil), ?_⟩
  rintro ⟨book, state, _⟩ hpre B S0 Q hret
  show At _ _ _ _ [.im book, .im state, .no]
  have hst : StOk book state := hpre
  exact q_ret (EvL.ev (el_lcF _ _ (it_rng1 (ev_int) (by first | omega | (dsimp only; omega))) (by first | decide | (show (2 : Nat) ≤ 1000000; decide) | (rw [len_rng]; decide)) rfl (fun x hm_x => ⟨_, _, tg_name rfl, (by decide), et_B (ev_ixT (ev_t4i (ev_var (i := 0) rfl) (ev_var (i := 2) rfl) (by exact bd02 hm_x)) (ev_t4i (ev_var (i := 1) rfl) (ev_var (i := 2) rfl) (by exact bd02 hm_x)) (by exact run_bd hst (in02 hm_x))), fun hf_x => ev_var (i := 2) rfl⟩))) (hret _ _ (by exact rns_eq2))
end
theorem sc__law_all : FnScope ["book", "most", "found", "known", "at", "rule", "other"] ["book", "most"] (defScope s__law_all) := ⟨rfl, rfl, rfl, by decide +kernel, rfl, by decide +kernel, by decide +kernel⟩
section
variable {P : Program} {w : World} {K : Fg} {mg : Str → Option Value} {base : Heap}
set_option maxHeartbeats 4000000 in
theorem ok__law_all {Y : XC → Addr} (T : Tx K mg Y) (c__law_can : Cal P w K mg base 1 "_law_can" ["state", "rule"] (spF K (fun a : (T4 Int Int (Tp Int) (Tp Int)) × (T5 Int Int (Option Int) Int (Option Int)) × Unit => canM a.1 a.2.1) (fun a => 0 ≤ a.2.1.a ∧ a.2.1.a < 2))) (c__law_comes : Cal P w K mg base 1 "_law_comes" ["state", "rule"] (spF K (fun a : (T4 Int Int (Tp Int) (Tp Int)) × (T5 Int Int (Option Int) Int (Option Int)) × Unit => comesM a.1 a.2.1) (fun a => (0 ≤ a.2.1.a ∧ a.2.1.a < 2) ∧ (a.1.c.l.length ≤ 100 ∧ a.1.d.l.length ≤ 100)))) : Cal P w K mg base 2 "_law_all" ["book", "most"] (spF K (fun a : (T4 (Tp Bool) (Tp Bool) Int (Tp (T5 Int Int (Option Int) Int (Option Int)))) × Int × Unit => allM a.1 a.2.1) (fun a => BookOk a.1 ∧ 0 ≤ a.2.1 ∧ a.2.1 ≤ 800)) := by
  have nd := sc__law_all.nd
  refine def_spF (k := 1) T.d__law_all sc__law_all rfl fun fa cdv A outer s H E hr => ?_
  refine ⟨_, pss_cons (ps_set (i := 2) nd rfl (.inl rfl) (pe_lst (pa_cons (pe_tup (pa_cons (pe_int) (pa_cons (pe_int) (pa_cons (pe_tup (pa_nil)) (pa_cons (pe_tup (pa_nil)) pa_nil))))) pa_nil)))
      (pss_cons (ps_set (i := 3) nd rfl (.inl rfl) (pe_ndisp1 (sh := NKey.sh (T4 Int Int (Tp Int) (Tp Int))) (hu2_of hr) (pe_ix (r := rIxL K) ix_list (pv 2) (pe_int) (fun _ _ => rfl)) (pe_bl)))
      (pss_cons (ps_set (i := 4) nd rfl (.inl rfl) (pe_int))
      (pss_cons (ps_while PassesOwn.never (PW.pt (pw_and (pt_cmpR op_lt (pv 4) (pe_callB call_lenG (by rfl) T.n_len (by decide +kernel) (pa_cons (pv 2) pa_nil)) (nomark _)) (pw_and1 (pt_cmpR op_le (pe_callB call_lenG (by rfl) T.n_len (by decide +kernel) (pa_cons (pv 2) pa_nil)) (pv 1) (nomark _)))))
      (pss_cons (ps_for PassesOwn.never rfl (pi_tup (pe_ix (r := rIxT K) ix_tup (pv 0) pe_int (fun _ _ => rfl))) (pg_name (i := 5) nd rfl (.inl rfl))
      (Evl.pss_cut (ps_if (pt_val (pe_cal c__law_can hr (by decide) (by rfl) (pa_cons (pe_ix (r := rIxL K) ix_list (pv 2) (pv 4) (fun _ _ => rfl)) (pa_cons (pv 5) pa_nil)))) (pss_cons (ps_set (i := 6) nd rfl (.inl rfl) (pe_cal c__law_comes hr (by decide) (by rfl) (pa_cons (pe_ix (r := rIxL K) ix_list (pv 2) (pv 4) (fun _ _ => rfl)) (pa_cons (pv 5) pa_nil))))
      (Evl.pss_cut (ps_if (pt_cmp (pc_nnotin (hu2_of hr) (pv 6) (pv 3))) (pss_cons (ps_nput (hu2_of hr) (pv 3) (pv 6) (pe_bl) (by rfl))
      (pss_cons (ps_expr (pe_bm PySem.F.plainAttrs_list PySem.F.slot_list_append PySem.F.type_list_append mt_append (pv 2) (pa_cons (pv 6) pa_nil)))
      (pss_nil))) (pss_nil))
      (pss_nil))) (pss_nil))
      (pss_nil)))
      (pss_cons (ps_set (i := 4) nd rfl (.inl rfl) (pe_op op_add (pv 4) (pe_int)))
      (pss_nil))))
      (pss_cons (ps_ret (pv 2))
      (pss_nil))))), ?_⟩
  rintro ⟨book, most, _⟩ hpre B S0 Q hret
  show At _ _ _ _ [.im book, .im most, .no, .no, .no, .no, .no]
  obtain ⟨hbk, m0, m1⟩ := hpre
  dsimp only at hbk m0 m1
  refine qg_own 2 (el_lst (els_cons (ev_t4 (ev_int) (ev_int) (ev_tp (els_nil (α := Int)) (by simp)) (ev_tp (els_nil (α := Int)) (by simp))) (els_nil)) (by simp)) rfl fun found h_found => ?_
  refine q_nnew1 (i := 3) (ev_ixC (ec_own (i := 2) rfl) (ev_int) (by rw [h_found]; exact ⟨by decide, by show (0 : Int) < ((1 : Nat) : Int); decide⟩)) (ev_bl) rfl ?_
  refine at_genO 3 rfl fun known h_known => ?_
  refine qg_set 4 (ev_int) rfl fun at_ h_at_ => ?_
  refine qg_whI (fun st_ : (List (T4 Int Int (Tp Int) (Tp Int))) × (DN (T4 Int Int (Tp Int) (Tp Int)) Bool) × Int => [.im book, .im most, .ow st_.1, .ow st_.2.1, .im st_.2.2, .no, .no]) (fun st : List RSt × DN RSt Bool × Int => decide (st.2.2 < (st.1.length : Int)) && decide ((st.1.length : Int) ≤ most)) (found, known, at_) (fun st : List RSt × DN RSt Bool × Int => ∃ n, AlI book most st.1 st.2.1 st.2.2 n) (fun st : List RSt × DN RSt Bool × Int => (most + 2 - st.2.2).toNat) (.k (.k (.k (.k (.k (.d (.d .n))))))) (by exact ⟨0, by rw [h_known, h_found, h_at_]; exact AlI.start m0⟩) (fun s0 hI0 => ?_) (fun s0 hI0 hc0 Sb0 rb0 => ?_) (fun s0 hI0 hc0 Sb0 rb0 => ?_)
  ·
    obtain ⟨found_c, known_c, at_c⟩ := s0
    show EvT _ _ [.im book, .im most, .ow found_c, .ow known_c, .im at_c, .no, .no] _ [.im book, .im most, .ow found_c, .ow known_c, .im at_c, .no, .no]
    exact et_and (et_test (ev_b0 (ev_var (i := 4) rfl) (ev_len (ec_own (i := 2) rfl)))) (fun hc => et_test (ev_b0 (ev_len (ec_own (i := 2) rfl)) (ev_var (i := 1) rfl)))
  ·
    obtain ⟨found_b, known_b, at_b⟩ := s0
    show At _ _ _ _ [.im book, .im most, .ow found_b, .ow known_b, .im at_b, .no, .no]
    obtain ⟨n, hI⟩ := hI0
    have hI : AlI book most found_b known_b at_b n := hI
    obtain ⟨ha, hm⟩ := and_dec hc0
    dsimp only at ha hm
    have hnm := hI.nm
    have hbf := hI.bd
    have hst := hI.ok hbk ha
    have hfew := hst.few hbk
    have hea := hI.ea
    have hn : n < (Us book firstS n).length := by rw [← hI.ef]; omega
    refine qg_inv (fun st_ : (List (T4 Int Int (Tp Int) (Tp Int))) × (DN (T4 Int Int (Tp Int) (Tp Int)) Bool) => [.im book, .im most, .ow st_.1, .ow st_.2, .im at_b, .no, .no]) (fun pre (st : List RSt × DN RSt Bool) => AlJ book n pre st.1 st.2) (found_b, known_b) (it_tup (ev_4d (ev_var (i := 0) rfl))) (.k (.k (.k (.k (.k (.d (.d .n))))))) hI.into (fun pre1 rule post1 s1 ex1 hs1 Sb1 rb1 => ⟨_, _, tg_name rfl, ?_⟩) (fun s1 hs1 => ?_)
    ·
      obtain ⟨found_b1, known_b1⟩ := s1
      show At _ _ _ _ [.im book, .im most, .ow found_b1, .ow known_b1, .im at_b, .im rule, .no]
      have hJ : AlJ book n pre1 found_b1 known_b1 := hs1
      have hix := hJ.at0 hn
      have hru := hbk.rules _ (in_pre ex1)
      have hbd := hJ.bd
      have hl0 := hJ.le0
      have hkl := hJ.kn.len
      have hef : ((Us book firstS n).length : Int) = (found_b.length : Int) := by rw [hI.ef]
      have hpr : pre1.length < book.d.l.length := by rw [← ex1]; simp
      have hmn := hbk.many
      have hh1 : ix found_b1 at_b = ix found_b at_b := by rw [hea, hix, hI.ef]
      refine q_cutI (fun st_ : (List (T4 Int Int (Tp Int) (Tp Int))) × (DN (T4 Int Int (Tp Int) (Tp Int)) Bool) => [.im book, .im most, .ow st_.1, .ow st_.2, .im at_b, .im rule, .no]) (fun st : List RSt × DN RSt Bool => AlJ book n (pre1 ++ [rule]) st.1 st.2) ?_ (fun sI0 hI_0 => ?_)
      · refine q_ifc (et_B (ev_call (ea_cons (ev_ixC (ec_own (i := 2) rfl) (ev_var (i := 4) rfl) (by omega)) (ea_cons (ev_var (i := 5) rfl) (ea_nil))) (by exact hru.house))) (fun hb0 => ?_) (fun hb0 => ?_)
        ·
          refine qg_set 6 (ev_call (ea_cons (ev_ixC (ec_own (i := 2) rfl) (ev_var (i := 4) rfl) (by omega)) (ea_cons (ev_var (i := 5) rfl) (ea_nil))) (by refine ⟨hru.house, ?_, ?_⟩ <;> dsimp only <;> rw [hh1] <;> omega)) rfl fun other h_other => ?_
          refine q_cutI (fun st_ : (List (T4 Int Int (Tp Int) (Tp Int))) × (DN (T4 Int Int (Tp Int) (Tp Int)) Bool) => [.im book, .im most, .ow st_.1, .ow st_.2, .im at_b, .im rule, .im other]) (fun st : List RSt × DN RSt Bool => AlJ book n (pre1 ++ [rule]) st.1 st.2) ?_ (fun sI1 hI_1 => ?_)
          · refine q_ifc (et_B (ev_nnotin (i := 3) (ev_var (i := 6) rfl) rfl)) (fun hb1 => ?_) (fun hb1 => ?_)
            ·
              refine q_nput (i := 3) (ev_bl) rfl (ev_var (i := 6) rfl) rfl (by exact lt_line (by omega)) ?_
              refine at_genO 3 rfl fun known1 h_known1 => ?_
              show At _ _ _ _ [.im book, .im most, .ow found_b1, .ow known1, .im at_b, .im rule, .im other]
              refine qg_app 2 rfl (ev_var (i := 6) rfl) rfl (by exact lt_line (by omega)) fun found1 h_found1 => ?_
              refine q_next ?_
              exact at_mid (.k (.k (.k (.k (.k (.k (.k .n))))))) ⟨(found1, known1), rfl, by rw [h_found1, h_known1, h_other]; exact hJ.new (by rw [hea, hix]) hb0 (by rw [← h_other]; simpa using hb1)⟩
            ·
              refine q_next ?_
              exact at_mid (.k (.k (.k (.k (.k (.k (.k .n))))))) ⟨(found_b1, known_b1), rfl, by exact hJ.old (by rw [hea, hix]) hb0 (by rw [← h_other]; simpa using hb1)⟩
          ·
            obtain ⟨found2, known2⟩ := sI1
            show At _ _ _ _ [.im book, .im most, .ow found2, .ow known2, .im at_b, .im rule, .im other]
            refine q_next ?_
            exact at_mid (.k (.k (.k (.k (.k (.k (.d .n))))))) ⟨(found2, known2), rfl, by exact hI_1⟩
        ·
          refine q_next ?_
          exact at_mid (.k (.k (.k (.k (.k (.k (.d .n))))))) ⟨(found_b1, known_b1), rfl, by exact hJ.no (by rw [hea, hix]) hb0⟩
      ·
        obtain ⟨found3, known3⟩ := sI0
        show At _ _ _ _ [.im book, .im most, .ow found3, .ow known3, .im at_b, .im rule, .no]
        exact q_next (at_mid (.k (.k (.k (.k (.k (.d (.d .n))))))) ⟨(found3, known3), by rfl, by exact hI_0⟩)
    ·
      obtain ⟨found_e, known_e⟩ := s1
      show At _ _ _ _ [.im book, .im most, .ow found_e, .ow known_e, .im at_b, .no, .no]
      refine qg_set 4 (ev_i0 (ev_var (i := 4) rfl) (ev_int)) rfl fun at_1 h_at_1 => ?_
      refine q_next (at_mid (.k (.k (.k (.k (.k (.d (.d .n))))))) ⟨(found_e, known_e, at_1), by rfl, ?_, ?_⟩)
      · exact ⟨n + 1, by rw [h_at_1]; exact AlI.next hbk hI ha hm hs1⟩
      · show (most + 2 - at_1).toNat < (most + 2 - at_b).toNat; rw [h_at_1]; omega
  ·
    obtain ⟨found_e1, known_e1, at_e⟩ := s0
    show At _ _ _ _ [.im book, .im most, .ow found_e1, .ow known_e1, .im at_e, .no, .no]
    obtain ⟨n, hI⟩ := hI0
    refine at_relL (i := 2) rfl ?_
    exact q_ret (ev_var (i := 2) rfl) ((hret _ _ (by exact hI.end_ hc0)).reb rb0)
end
theorem sc__law_along : FnScope ["book", "steps", "states", "one"] ["book", "steps"] (defScope s__law_along) := ⟨rfl, rfl, rfl, by decide +kernel, rfl, by decide +kernel, by decide +kernel⟩
section
variable {P : Program} {w : World} {K : Fg} {mg : Str → Option Value} {base : Heap}
set_option maxHeartbeats 4000000 in
theorem ok__law_along {Y : XC → Addr} (T : Tx K mg Y) (c__law_can : Cal P w K mg base 1 "_law_can" ["state", "rule"] (spF K (fun a : (T4 Int Int (Tp Int) (Tp Int)) × (T5 Int Int (Option Int) Int (Option Int)) × Unit => canM a.1 a.2.1) (fun a => 0 ≤ a.2.1.a ∧ a.2.1.a < 2))) (c__law_comes : Cal P w K mg base 1 "_law_comes" ["state", "rule"] (spF K (fun a : (T4 Int Int (Tp Int) (Tp Int)) × (T5 Int Int (Option Int) Int (Option Int)) × Unit => comesM a.1 a.2.1) (fun a => (0 ≤ a.2.1.a ∧ a.2.1.a < 2) ∧ (a.1.c.l.length ≤ 100 ∧ a.1.d.l.length ≤ 100)))) : Cal P w K mg base 2 "_law_along" ["book", "steps"] (spF K (fun a : (T4 (Tp Bool) (Tp Bool) Int (Tp (T5 Int Int (Option Int) Int (Option Int)))) × (List Dat) × Unit => alongM a.1 a.2.1) (fun a => BookOk a.1 ∧ a.2.1.length ≤ 2000)) := by
  have nd := sc__law_along.nd
  refine def_spF (k := 1) T.d__law_along sc__law_along rfl fun fa cdv A outer s H E hr => ?_
  refine ⟨_, pss_cons (ps_set (i := 2) nd rfl (.inl rfl) (pe_lst (pa_cons (pe_tup (pa_cons (pe_int) (pa_cons (pe_int) (pa_cons (pe_tup (pa_nil)) (pa_cons (pe_tup (pa_nil)) pa_nil))))) pa_nil)))
      (pss_cons (ps_for PassesOwn.never rfl (pi_list (pv 1)) (pg_name (i := 3) nd rfl (.inl rfl))
      (pss_cons (ps_if (PW.pt (pw_or (pt_val (pe_callB (r := rIsi K) call_isi (by rfl) T.n_isinstance (by decide +kernel) (pa_cons (pv 3) (pa_cons (pe_bltn (v := .ty "bool") (by rfl) T.n_bool (by decide +kernel) rfl) pa_nil)))) (pw_or (pt_not (pt_val (pe_callB (r := rIsi K) call_isi (by rfl) T.n_isinstance (by decide +kernel) (pa_cons (pv 3) (pa_cons (pe_bltn (v := .ty "int") (by rfl) T.n_int (by decide +kernel) rfl) pa_nil))))) (pw_or (pt_cmpR op_lt (pv 3) (pe_int) (nomark _)) (pw_or1 (pt_cmpR op_ge (pv 3) (pe_callB call_lenG (by rfl) T.n_len (by decide +kernel) (pa_cons (pe_ix (r := rIxT K) ix_tup (pv 0) pe_int (fun _ _ => rfl)) pa_nil)) (nomark _))))))) (pss_cons (ps_ret (pe_non))
      (pss_nil)) (pss_nil))
      (pss_cons (ps_if (pt_not (pt_val (pe_cal c__law_can hr (by decide) (by rfl) (pa_cons (pe_ix (r := rIxL K) ix_list (pv 2) (pe_un un_neg (pe_int)) (fun _ _ => rfl)) (pa_cons (pe_ix (r := rIxT K) ix_tup (pe_ix (r := rIxT K) ix_tup (pv 0) pe_int (fun _ _ => rfl)) (pv 3) (fun _ _ => rfl)) pa_nil))))) (pss_cons (ps_ret (pe_non))
      (pss_nil)) (pss_nil))
      (pss_cons (ps_expr (pe_bm PySem.F.plainAttrs_list PySem.F.slot_list_append PySem.F.type_list_append mt_append (pv 2) (pa_cons (pe_cal c__law_comes hr (by decide) (by rfl) (pa_cons (pe_ix (r := rIxL K) ix_list (pv 2) (pe_un un_neg (pe_int)) (fun _ _ => rfl)) (pa_cons (pe_ix (r := rIxT K) ix_tup (pe_ix (r := rIxT K) ix_tup (pv 0) pe_int (fun _ _ => rfl)) (pv 3) (fun _ _ => rfl)) pa_nil))) pa_nil)))
      (pss_nil)))))
      (pss_cons (ps_ret (pv 2))
      (pss_nil))), ?_⟩
  rintro ⟨book, steps, _⟩ hpre B S0 Q hret
  show At _ _ _ _ [.im book, .im steps, .no, .no]
  obtain ⟨hbk, hsl⟩ := hpre
  dsimp only at hbk hsl
  refine qg_own 2 (el_lst (els_cons (ev_t4 (ev_int) (ev_int) (ev_tp (els_nil (α := Int)) (by simp)) (ev_tp (els_nil (α := Int)) (by simp))) (els_nil)) (by simp)) rfl fun states h_states => ?_
  refine qg_forL (fun st_ : (List (T4 Int Int (Tp Int) (Tp Int))) => [.im book, .im steps, .ow st_, .no]) (alongB book) Option.some states (alongM book steps) (fun pre (st : List RSt) => AccOk book pre.length st) (it_list (ev_var (i := 1) rfl)) (.k (.k (.k (.d .n)))) (by rw [h_states]; unfold alongM; rfl) (by rw [h_states]; exact AccOk.start hbk) (fun pre0 one post0 s0 ex0 hs0 hR0 Sb0 rb0 => ⟨_, _, tg_name rfl, ?_⟩) (fun s0 hR0 hs0 => ?_)
  ·
    show At _ _ _ _ [.im book, .im steps, .ow s0, .im one]
    have hacc : AccOk book pre0.length s0 := hs0
    have hfl := hacc.len
    have hlast := hacc.last
    have hfew := hlast.few hbk
    refine q_if (et_or (et_B (ev_isBD (ev_var (i := 3) rfl))) (fun hc0 => et_or (et_not (et_B (ev_isID (ev_var (i := 3) rfl)))) (fun hc1 => et_or (et_test (ev_b0 (EvX.asI (ev_var (i := 3) rfl) (by first | exact step_int hb0 | exact isInt_of (by simpa using hc1) (by simpa using hc0))) (ev_int))) (fun hc2 => et_test (ev_b0 (EvX.asI (ev_var (i := 3) rfl) (by first | exact step_int hb0 | exact isInt_of (by simpa using hc1) (by simpa using hc0))) (ev_lenT (ev_4d (ev_var (i := 0) rfl)))))))) (fun hb0 => ?_) (fun hb0 => ?_)
    ·
      exact q_ret (ev_none (α := (List (T4 Int Int (Tp Int) (Tp Int))))) ((hret _ _ (by exact (forL_rt hR0 (along_rt (step_law1 hb0))).symm)).reb rb0)
    ·
      refine q_next ?_
      refine q_if (et_not (et_B (ev_call (ea_cons (ev_lastC (ec_own (i := 2) rfl) (ev_neg (ev_int)) (by omega)) (ea_cons (ev_ixT (ev_4d (ev_var (i := 0) rfl)) (EvX.asI (ev_var (i := 3) rfl) (by first | exact step_int hb0 | exact isInt_of (by simpa using hc1) (by simpa using hc0))) (by exact step_in hb0)) (ea_nil))) (by exact (hbk.rules _ (ix_memR (step_in hb0))).house)))) (fun hb1 => ?_) (fun hb1 => ?_)
      ·
        exact q_ret (ev_none (α := (List (T4 Int Int (Tp Int) (Tp Int))))) ((hret _ _ (by exact (forL_rt hR0 (along_rt (step_law2 hb1))).symm)).reb rb0)
      ·
        refine q_next ?_
        refine qg_app 2 rfl (ev_call (ea_cons (ev_lastC (ec_own (i := 2) rfl) (ev_neg (ev_int)) (by omega)) (ea_cons (ev_ixT (ev_4d (ev_var (i := 0) rfl)) (EvX.asI (ev_var (i := 3) rfl) (by first | exact step_int hb0 | exact isInt_of (by simpa using hc1) (by simpa using hc0))) (by exact step_in hb0)) (ea_nil))) (by exact ⟨(hbk.rules _ (ix_memR (step_in hb0))).house, by dsimp only; omega, by dsimp only; omega⟩)) rfl (by exact lt_line (by have := congrArg List.length ex0; rw [List.length_append, List.length_cons] at this; omega)) fun states1 h_states1 => ?_
        exact q_next (at_mid (.k (.k (.k (.d .n)))) ⟨states1, by rfl, forL_nx hR0 (by rw [h_states1]; exact along_nx (step_law hb0 hb1)), by rw [h_states1, List.length_append]; exact hacc.next hbk (step_law hb0 hb1)⟩)
  ·
    show At _ _ _ _ [.im book, .im steps, .ow s0, .no]
    refine at_relL (i := 2) rfl ?_
    exact q_ret (EvX.some (ev_var (i := 2) rfl)) (hret _ _ (by exact hR0.symm))
end
theorem sc__law_walk : FnScope ["book", "some", "state", "steps", "one", "can", "k", "rule"] ["book", "some"] (defScope s__law_walk) := ⟨rfl, rfl, rfl, by decide +kernel, rfl, by decide +kernel, by decide +kernel⟩
section
variable {P : Program} {w : World} {K : Fg} {mg : Str → Option Value} {base : Heap}
set_option maxHeartbeats 4000000 in
theorem ok__law_walk {Y : XC → Addr} (T : Tx K mg Y) (c__law_can : Cal P w K mg base 1 "_law_can" ["state", "rule"] (spF K (fun a : (T4 Int Int (Tp Int) (Tp Int)) × (T5 Int Int (Option Int) Int (Option Int)) × Unit => canM a.1 a.2.1) (fun a => 0 ≤ a.2.1.a ∧ a.2.1.a < 2))) (c__law_comes : Cal P w K mg base 1 "_law_comes" ["state", "rule"] (spF K (fun a : (T4 Int Int (Tp Int) (Tp Int)) × (T5 Int Int (Option Int) Int (Option Int)) × Unit => comesM a.1 a.2.1) (fun a => (0 ≤ a.2.1.a ∧ a.2.1.a < 2) ∧ (a.1.c.l.length ≤ 100 ∧ a.1.d.l.length ≤ 100)))) : Cal P w K mg base 2 "_law_walk" ["book", "some"] (spQ K (fun (a : (T4 (Tp Bool) (Tp Bool) Int (Tp (T5 Int Int (Option Int) Int (Option Int)))) × (List Int) × Unit) (y : (List Int)) => y.length ≤ a.2.1.length ∧ ∀ x ∈ y, 0 ≤ x ∧ x < ((a.1.d.l.length : Nat) : Int)) (fun a => BookOk a.1 ∧ a.2.1.length ≤ 100)) := by
  have nd := sc__law_walk.nd
  refine def_spQ (k := 1) T.d__law_walk sc__law_walk rfl fun fa cdv A outer s H E hr => ?_
  refine ⟨_, pss_cons (ps_set (i := 2) nd rfl (.inr rfl) (pe_tup (pa_cons (pe_int) (pa_cons (pe_int) (pa_cons (pe_tup (pa_nil)) (pa_cons (pe_tup (pa_nil)) pa_nil))))))
      (pss_cons (ps_set (i := 3) nd rfl (.inl rfl) (pe_lst (pa_nil)))
      (pss_cons (ps_for PassesOwn.never rfl (pi_list (pv 1)) (pg_name (i := 4) nd rfl (.inl rfl))
      (pss_cons (ps_setLc (i := 5) (own := [("k", 6), ("rule", 7)]) (g := gTup K 2 (gCons (gName 6) (gCons (gName 7) (gNil)))) rfl nd rfl rfl (sw_true rfl rfl rfl (by decide +kernel)) (pi_enumT (by rfl) T.n_enumerate (pa_cons (pe_ix (r := rIxT K) ix_tup (pv 0) pe_int (fun _ _ => rfl)) pa_nil)) (blkOk_by (N := ["book", "some", "state", "steps", "one", "can", "k", "rule"]) (sc := defScope s__law_walk) (by decide +kernel)) (fun _ _ _ _ _ => pg_tup rfl (pgs_cons (pg_name (i := 6) nd rfl (.inl rfl) (.inr rfl)) (pgs_cons (pg_name (i := 7) nd rfl (.inl rfl) (.inr rfl)) (pgs_nil)))) (fun _ _ _ _ _ => pts_one (pt_val (pe_cal c__law_can hr (by decide) (by rfl) (pa_cons (pv 2) (pa_cons (pv 7) pa_nil))))) (fun _ _ _ _ _ => pv 6))
      (pss_cons (ps_if (pt_cmpR (op_eqD hr.units) (pv 5) (pe_lst (pa_nil)) (nomark _)) (pss_cons (ps_ret (pv 3))
      (pss_nil)) (pss_nil))
      (pss_cons (ps_expr (pe_bm PySem.F.plainAttrs_list PySem.F.slot_list_append PySem.F.type_list_append mt_append (pv 3) (pa_cons (pe_ix (r := rIxL K) ix_list (pv 5) (pe_op op_mod (pv 4) (pe_callB call_lenG (by rfl) T.n_len (by decide +kernel) (pa_cons (pv 5) pa_nil))) (fun _ _ => rfl)) pa_nil)))
      (pss_cons (ps_set (i := 2) nd rfl (.inr rfl) (pe_cal c__law_comes hr (by decide) (by rfl) (pa_cons (pv 2) (pa_cons (pe_ix (r := rIxT K) ix_tup (pe_ix (r := rIxT K) ix_tup (pv 0) pe_int (fun _ _ => rfl)) (pe_ix (r := rIxL K) ix_list (pv 3) (pe_un un_neg (pe_int)) (fun _ _ => rfl)) (fun _ _ => rfl)) pa_nil))))
      (pss_nil))))))
      (pss_cons (ps_ret (pv 3))
      (pss_nil)))), ?_⟩
  rintro ⟨book, some, _⟩ hpre B S0 Q hret
  show At _ _ _ _ [.im book, .im some, .no, .no, .no, .no, .no, .no]
  obtain ⟨hbk, hsl⟩ := hpre
  dsimp only at hbk hsl
  refine qg_set 2 (ev_t4 (ev_int) (ev_int) (ev_tp (els_nil (α := Int)) (by simp)) (ev_tp (els_nil (α := Int)) (by simp))) rfl fun state h_state => ?_
  refine qg_own 3 (el_lst (els_nil (α := Int)) (by simp)) rfl fun steps h_steps => ?_
  refine qg_inv (fun st_ : (T4 Int Int (Tp Int) (Tp Int)) × (List Int) => [.im book, .im some, .im st_.1, .ow st_.2, .no, .no, .no, .no]) (fun pre (st : RSt × List Int) => (StOk book st.1 ∧ st.2.length = pre.length) ∧ ∀ x ∈ st.2, 0 ≤ x ∧ x < ((book.d.l.length : Nat) : Int)) (state, steps) (it_list (ev_var (i := 1) rfl)) (.k (.k (.k (.k (.d (.d (.d (.d .n)))))))) (by rw [h_state, h_steps]; exact ⟨⟨first_ok hbk, rfl⟩, fun x hx => nomatch hx⟩) (fun pre0 one post0 s0 ex0 hs0 Sb0 rb0 => ⟨_, _, tg_name rfl, ?_⟩) (fun s0 hs0 => ?_)
  ·
    obtain ⟨state_b, steps_b⟩ := s0
    show At _ _ _ _ [.im book, .im some, .im state_b, .ow steps_b, .im one, .no, .no, .no]
    have hst : StOk book state_b := hs0.1.1
    have hln : steps_b.length = pre0.length := hs0.1.2
    have hfew := hst.few hbk
    have hpl := congrArg List.length ex0
    rw [List.length_append, List.length_cons] at hpl
    have hwi : ∀ x ∈ steps_b, 0 ≤ x ∧ x < ((book.d.l.length : Nat) : Int) := hs0.2
    refine qg_set 5 (EvL.ev (el_lcF _ _ (it_enumT (ev_4d (ev_var (i := 0) rfl))) (by rw [len_enumI]; have := hbk.many; omega) rfl (fun x hm_x => ⟨_, _, tg_pair (tg_name rfl) (tg_name rfl), (by decide), et_B (ev_call (ea_cons (ev_var (i := 2) rfl) (ea_cons (ev_var (i := 7) rfl) (ea_nil))) (by exact (hbk.rules _ (List.mem_of_getElem? (mem_enumI.mp hm_x).2)).house)), fun hf_x => ev_var (i := 6) rfl⟩))) rfl fun can h_can => ?_
    have hcb : ∀ x ∈ can, 0 ≤ x ∧ x < ((book.d.l.length : Nat) : Int) := fun x hx => by rw [h_can] at hx; exact can_bd hx
    refine q_if (et_test (ev_eqD (ev_var (i := 5) rfl) (EvL.ev (el_lst (els_nil (α := Int)) (by simp))) (by decide))) (fun hb0 => ?_) (fun hb0 => ?_)
    ·
      refine at_relL (i := 3) rfl ?_
      exact q_ret (ev_var (i := 3) rfl) ((hret _ _ (by exact ⟨by dsimp only; omega, hwi⟩)).reb rb0)
    ·
      refine q_next ?_
      refine qg_app 3 rfl (ev_ix (ev_var (i := 5) rfl) (ev_iC (ev_var (i := 4) rfl) (ev_len (EvX.c (ev_var (i := 5) rfl))) (by have := ne_len hb0; omega)) (by first | exact modB (by have := ne_len hb0; omega) | exact hlb)) rfl (by exact lt_line (by omega)) fun steps1 h_steps1 => ?_
      have hlb : 0 ≤ lastI steps1 ∧ lastI steps1 < ((book.d.l.length : Nat) : Int) := by rw [h_steps1, lastI_app]; exact hcb _ (ix_memI (modB (by have := ne_len hb0; omega)))
      refine qg_set 2 (ev_call (ea_cons (ev_var (i := 2) rfl) (ea_cons (ev_ixT (ev_4d (ev_var (i := 0) rfl)) (ev_lastC (ec_own (i := 3) rfl) (ev_neg (ev_int)) (by rw [h_steps1, List.length_append]; simp)) (by first | exact modB (by have := ne_len hb0; omega) | exact hlb)) (ea_nil))) (by exact ⟨(hbk.rules _ (ix_memR hlb)).house, by dsimp only; omega, by dsimp only; omega⟩)) rfl fun state1 h_state1 => ?_
      exact q_next (at_mid (.k (.k (.k (.k (.d (.d (.d (.d .n)))))))) ⟨(state1, steps1), by rfl, by exact ⟨⟨(by show StOk book state1; rw [h_state1]; exact comes_ok hbk hst (ix_memR hlb)), (by show steps1.length = _; rw [h_steps1, List.length_append, List.length_append, hln]; rfl)⟩, (by show ∀ x ∈ steps1, _; rw [h_steps1]; exact all_snocS hwi (hcb _ (ix_memI (modB (by have := ne_len hb0; omega)))))⟩⟩)
  ·
    obtain ⟨state_e, steps_e⟩ := s0
    show At _ _ _ _ [.im book, .im some, .im state_e, .ow steps_e, .no, .no, .no, .no]
    refine at_relL (i := 3) rfl ?_
    exact q_ret (ev_var (i := 3) rfl) (hret _ _ (by exact ⟨by have h9 := hs0.1.2; dsimp only at h9 ⊢; omega, hs0.2⟩))
end
theorem sc__law_whole : FnScope ["thing"] ["thing"] (defScope s__law_whole) := ⟨rfl, rfl, rfl, by decide +kernel, rfl, by decide +kernel, by decide +kernel⟩
section
variable {P : Program} {w : World} {K : Fg} {mg : Str → Option Value} {base : Heap}
set_option maxHeartbeats 4000000 in
theorem ok__law_whole {Y : XC → Addr} (T : Tx K mg Y)  : Cal P w K mg base 1 "_law_whole" ["thing"] (spF K (fun a : Dat × Unit => whD a.1) (fun a => True)) := by
  have nd := sc__law_whole.nd
  refine def_spF (k := 0) T.d__law_whole sc__law_whole rfl fun fa cdv A outer s H E hr => ?_
  refine ⟨_, pss_cons (ps_ret (pe_and (pe_callB (r := rIsi K) call_isi (by rfl) T.n_isinstance (by decide +kernel) (pa_cons (pv 0) (pa_cons (pe_bltn (v := .ty "int") (by rfl) T.n_int (by decide +kernel) rfl) pa_nil))) (pe_one (pe_not (pe_callB (r := rIsi K) call_isi (by rfl) T.n_isinstance (by decide +kernel) (pa_cons (pv 0) (pa_cons (pe_bltn (v := .ty "bool") (by rfl) T.n_bool (by decide +kernel) rfl) pa_nil)))))))
      (pss_nil), ?_⟩
  rintro ⟨thing, _⟩ hpre B S0 Q hret
  show At _ _ _ _ [.im thing]
  exact q_ret (ev_andV (ev_isID (ev_var (i := 0) rfl)) (fun hc => ev_notV (ev_isBD (ev_var (i := 0) rfl)))) (hret _ _ (by rfl))
end
theorem sc__law_is_letters : FnScope ["book", "thing", "last", "one"] ["book", "thing"] (defScope s__law_is_letters) := ⟨rfl, rfl, rfl, by decide +kernel, rfl, by decide +kernel, by decide +kernel⟩
section
variable {P : Program} {w : World} {K : Fg} {mg : Str → Option Value} {base : Heap}
set_option maxHeartbeats 4000000 in
theorem ok__law_is_letters {Y : XC → Addr} (T : Tx K mg Y) (c__law_whole : Cal P w K mg base 1 "_law_whole" ["thing"] (spF K (fun a : Dat × Unit => whD a.1) (fun a => True))) : Cal P w K mg base 2 "_law_is_letters" ["book", "thing"] (spF K (fun a : (T4 (Tp Bool) (Tp Bool) Int (Tp (T5 Int Int (Option Int) Int (Option Int)))) × Dat × Unit => ltD a.1.c a.2.1) (fun a => True)) := by
  have nd := sc__law_is_letters.nd
  refine def_spF (k := 1) T.d__law_is_letters sc__law_is_letters rfl fun fa cdv A outer s H E hr => ?_
  refine ⟨_, pss_cons (ps_if (pt_not (pt_val (pe_callB (r := rIsi K) call_isi (by rfl) T.n_isinstance (by decide +kernel) (pa_cons (pv 1) (pa_cons (pe_bltn (v := .ty "tuple") (by rfl) T.n_tuple (by decide +kernel) rfl) pa_nil))))) (pss_cons (ps_ret (pe_bl))
      (pss_nil)) (pss_nil))
      (pss_cons (ps_set (i := 2) nd rfl (.inl rfl) (pe_un un_neg (pe_int)))
      (pss_cons (ps_for PassesOwn.never rfl (pi_tup (pv 1)) (pg_name (i := 3) nd rfl (.inl rfl))
      (pss_cons (ps_if (PW.pt (pw_or (pt_not (pt_val (pe_cal c__law_whole hr (by decide) (by rfl) (pa_cons (pv 3) pa_nil)))) (pw_or (pt_cmpR op_le (pv 3) (pv 2) (nomark _)) (pw_or1 (pt_cmpR op_ge (pv 3) (pe_ix (r := rIxT K) ix_tup (pv 0) pe_int (fun _ _ => rfl)) (nomark _)))))) (pss_cons (ps_ret (pe_bl))
      (pss_nil)) (pss_nil))
      (pss_cons (ps_set (i := 2) nd rfl (.inl rfl) (pv 3))
      (pss_nil))))
      (pss_cons (ps_ret (pe_bl))
      (pss_nil)))), ?_⟩
  rintro ⟨book, thing, _⟩ hpre B S0 Q hret
  show At _ _ _ _ [.im book, .im thing, .no, .no]
  refine q_if (et_not (et_B (ev_isTD (ev_var (i := 1) rfl)))) (fun hb0 => ?_) (fun hb0 => ?_)
  ·
    exact q_ret (ev_bl) (hret _ _ (by exact lt_ret0 hb0))
  ·
    refine q_next ?_
    refine qg_set 2 (ev_neg (ev_int)) rfl fun last h_last => ?_
    refine qg_inv (fun st_ : Int => [.im book, .im thing, .im st_, .no]) (fun pre (st : Int) => LtI book.c pre st) last (it_tup (EvX.asT (ev_var (i := 1) rfl) (by simpa using hb0))) (.k (.k (.k (.d .n)))) (by rw [h_last]; exact LtI.start) (fun pre0 one post0 s0 ex0 hs0 Sb0 rb0 => ⟨_, _, tg_name rfl, ?_⟩) (fun s0 hs0 => ?_)
    ·
      show At _ _ _ _ [.im book, .im thing, .im s0, .im one]
      refine q_if (et_or (et_not (et_B (ev_call (ea_cons (ev_var (i := 3) rfl) (ea_nil)) (by ((try dsimp only) <;> (repeat' (first | assumption | omega | refine And.intro ?_ ?_)) <;> first | trivial | assumption | omega | decide | simp))))) (fun hc0 => et_or (et_test (ev_b0 (EvX.asI (ev_var (i := 3) rfl) (by first | exact wh_int hc0 | exact wh_int hc1 | exact ob_int hb1)) (ev_var (i := 2) rfl))) (fun hc1 => et_test (ev_b0 (EvX.asI (ev_var (i := 3) rfl) (by first | exact wh_int hc0 | exact wh_int hc1 | exact ob_int hb1)) (ev_4c (ev_var (i := 0) rfl)))))) (fun hb1 => ?_) (fun hb1 => ?_)
      ·
        exact q_ret (ev_bl) ((hret _ _ (by exact lt_ret1 hs0 hb0 ex0 hb1)).reb rb0)
      ·
        refine q_next ?_
        refine qg_set 2 (EvX.asI (ev_var (i := 3) rfl) (by first | exact wh_int hc0 | exact wh_int hc1 | exact ob_int hb1)) rfl fun last1 h_last1 => ?_
        exact q_next (at_mid (.k (.k (.k (.d .n)))) ⟨last1, by rfl, by rw [h_last1]; exact lt_go hs0 hb1⟩)
    ·
      show At _ _ _ _ [.im book, .im thing, .im s0, .no]
      exact q_ret (ev_bl) (hret _ _ (by exact lt_ret2 hs0 hb0))
end
theorem sc__law_is_state : FnScope ["book", "thing", "house"] ["book", "thing"] (defScope s__law_is_state) := ⟨rfl, rfl, rfl, by decide +kernel, rfl, by decide +kernel, by decide +kernel⟩
section
variable {P : Program} {w : World} {K : Fg} {mg : Str → Option Value} {base : Heap}
set_option maxHeartbeats 4000000 in
theorem ok__law_is_state {Y : XC → Addr} (T : Tx K mg Y) (c__law_is_letters : Cal P w K mg base 2 "_law_is_letters" ["book", "thing"] (spF K (fun a : (T4 (Tp Bool) (Tp Bool) Int (Tp (T5 Int Int (Option Int) Int (Option Int)))) × Dat × Unit => ltD a.1.c a.2.1) (fun a => True))) (c__law_whole : Cal P w K mg base 1 "_law_whole" ["thing"] (spF K (fun a : Dat × Unit => whD a.1) (fun a => True))) : Cal P w K mg base 3 "_law_is_state" ["book", "thing"] (spF K (fun a : (T4 (Tp Bool) (Tp Bool) Int (Tp (T5 Int Int (Option Int) Int (Option Int)))) × Dat × Unit => stD a.1 a.2.1) (fun a => True)) := by
  have nd := sc__law_is_state.nd
  refine def_spF (k := 2) T.d__law_is_state sc__law_is_state rfl fun fa cdv A outer s H E hr => ?_
  refine ⟨_, pss_cons (ps_if (PW.pt (pw_or (pt_not (pt_val (pe_callB (r := rIsi K) call_isi (by rfl) T.n_isinstance (by decide +kernel) (pa_cons (pv 1) (pa_cons (pe_bltn (v := .ty "tuple") (by rfl) T.n_tuple (by decide +kernel) rfl) pa_nil))))) (pw_or1 (pt_cmpR op_ne (pe_callB call_lenG (by rfl) T.n_len (by decide +kernel) (pa_cons (pv 1) pa_nil)) (pe_int) (nomark _))))) (pss_cons (ps_ret (pe_bl))
      (pss_nil)) (pss_nil))
      (pss_cons (ps_for PassesOwn.never rfl (pi_range1 (by rfl) T.n_range (pa_cons (pe_int) pa_nil)) (pg_name (i := 2) nd rfl (.inl rfl))
      (pss_cons (ps_if (PW.pt (pw_or (pt_not (pt_val (pe_cal c__law_whole hr (by decide) (by rfl) (pa_cons (pe_ix (r := rIxT K) ix_tup (pv 1) (pv 2) (fun _ _ => rfl)) pa_nil)))) (pw_or1 (pt_not (pt_chain op_le op_lt (pe_int) (pe_ix (r := rIxT K) ix_tup (pv 1) (pv 2) (fun _ _ => rfl)) (pe_callB call_lenG (by rfl) T.n_len (by decide +kernel) (pa_cons (pe_ix (r := rIxT K) ix_tup (pv 0) (pv 2) (fun _ _ => rfl)) pa_nil))))))) (pss_cons (ps_ret (pe_bl))
      (pss_nil)) (pss_nil))
      (pss_nil)))
      (pss_cons (ps_ret (pe_and (pe_cal c__law_is_letters hr (by decide) (by rfl) (pa_cons (pv 0) (pa_cons (pe_ix (r := rIxT K) ix_tup (pv 1) (pe_int) (fun _ _ => rfl)) pa_nil))) (pe_one (pe_cal c__law_is_letters hr (by decide) (by rfl) (pa_cons (pv 0) (pa_cons (pe_ix (r := rIxT K) ix_tup (pv 1) (pe_int) (fun _ _ => rfl)) pa_nil))))))
      (pss_nil))), ?_⟩
  rintro ⟨book, thing, _⟩ hpre B S0 Q hret
  show At _ _ _ _ [.im book, .im thing, .no]
  refine q_if (et_or (et_not (et_B (ev_isTD (ev_var (i := 1) rfl)))) (fun hc0 => et_test (ev_ne (ev_lenT (EvX.asT (ev_var (i := 1) rfl) (by first | (simpa using hc0) | exact (st_four hb0).1))) (ev_int)))) (fun hb0 => ?_) (fun hb0 => ?_)
  ·
    exact q_ret (ev_bl) (hret _ _ (by exact st_ret0 hb0))
  ·
    refine q_next ?_
    refine qg_inv (fun st_ : Unit => [.im book, .im thing, .no]) (fun pre (_ : Unit) => ∀ h ∈ pre, StH book thing h) () (it_rng1 (ev_int) (by first | omega | (dsimp only; omega))) (.k (.k (.d .n))) (fun h hh => by cases hh) (fun pre0 house post0 s0 ex0 hs0 Sb0 rb0 => ⟨_, _, tg_name rfl, ?_⟩) (fun s0 hs0 => ?_)
    ·
      show At _ _ _ _ [.im book, .im thing, .im house]
      have hk := rng_pre ex0
      have hh01 : house = 0 ∨ house = 1 := by omega
      have h4 := st_four hb0
      refine q_if (et_or (et_not (et_B (ev_call (ea_cons (ev_ixT (EvX.asT (ev_var (i := 1) rfl) (by first | (simpa using hc0) | exact (st_four hb0).1)) (ev_var (i := 2) rfl) (by rw [(st_four hb0).2]; exact ⟨by omega, by omega⟩)) (ea_nil)) (by ((try dsimp only) <;> (repeat' (first | assumption | omega | refine And.intro ?_ ?_)) <;> first | trivial | assumption | omega | decide | simp))))) (fun hc0 => et_not (et_test (ev_chain (ev_int) (EvX.asI (ev_ixT (EvX.asT (ev_var (i := 1) rfl) (by first | (simpa using hc0) | exact (st_four hb0).1)) (ev_var (i := 2) rfl) (by rw [(st_four hb0).2]; exact ⟨by omega, by omega⟩)) (by exact wh_int hc0)) (ev_lenT (ev_t4i (ev_var (i := 0) rfl) (ev_var (i := 2) rfl) (by omega))))))) (fun hb1 => ?_) (fun hb1 => ?_)
      ·
        exact q_ret (ev_bl) ((hret _ _ (by exact st_ret1 h4 hh01 hb1)).reb rb0)
      ·
        refine q_next ?_
        exact q_next (at_mid (.k (.k (.d .n))) ⟨(), by rfl, by exact all_snocS hs0 (st_go hb1)⟩)
    ·
      show At _ _ _ _ [.im book, .im thing, .no]
      exact q_ret (ev_andV (ev_call (ea_cons (ev_var (i := 0) rfl) (ea_cons (ev_ixT (EvX.asT (ev_var (i := 1) rfl) (by first | (simpa using hc0) | exact (st_four hb0).1)) (ev_int) (by rw [(st_four hb0).2]; exact ⟨by omega, by omega⟩)) (ea_nil))) (by ((try dsimp only) <;> (repeat' (first | assumption | omega | refine And.intro ?_ ?_)) <;> first | trivial | assumption | omega | decide | simp))) (fun hc0 => ev_call (ea_cons (ev_var (i := 0) rfl) (ea_cons (ev_ixT (EvX.asT (ev_var (i := 1) rfl) (by first | (simpa using hc0) | exact (st_four hb0).1)) (ev_int) (by rw [(st_four hb0).2]; exact ⟨by omega, by omega⟩)) (ea_nil))) (by ((try dsimp only) <;> (repeat' (first | assumption | omega | refine And.intro ?_ ?_)) <;> first | trivial | assumption | omega | decide | simp)))) (hret _ _ (by exact st_ret2 (st_four hb0) hs0))
end
theorem sc__law_closed : FnScope ["book", "first", "things", "known", "one", "rule"] ["book", "first", "things"] (defScope s__law_closed) := ⟨rfl, rfl, rfl, by decide +kernel, rfl, by decide +kernel, by decide +kernel⟩
section
variable {P : Program} {w : World} {K : Fg} {mg : Str → Option Value} {base : Heap}
set_option maxHeartbeats 4000000 in
theorem ok__law_closed {Y : XC → Addr} (T : Tx K mg Y) (c__law_can : Cal P w K mg base 1 "_law_can" ["state", "rule"] (spF K (fun a : (T4 Int Int (Tp Int) (Tp Int)) × (T5 Int Int (Option Int) Int (Option Int)) × Unit => canM a.1 a.2.1) (fun a => 0 ≤ a.2.1.a ∧ a.2.1.a < 2))) (c__law_comes : Cal P w K mg base 1 "_law_comes" ["state", "rule"] (spF K (fun a : (T4 Int Int (Tp Int) (Tp Int)) × (T5 Int Int (Option Int) Int (Option Int)) × Unit => comesM a.1 a.2.1) (fun a => (0 ≤ a.2.1.a ∧ a.2.1.a < 2) ∧ (a.1.c.l.length ≤ 100 ∧ a.1.d.l.length ≤ 100)))) (c__law_is_state : Cal P w K mg base 3 "_law_is_state" ["book", "thing"] (spF K (fun a : (T4 (Tp Bool) (Tp Bool) Int (Tp (T5 Int Int (Option Int) Int (Option Int)))) × Dat × Unit => stD a.1 a.2.1) (fun a => True))) : Cal P w K mg base 4 "_law_closed" ["book", "first", "things"] (spF K (fun a : (T4 (Tp Bool) (Tp Bool) Int (Tp (T5 Int Int (Option Int) Int (Option Int)))) × (T4 Int Int (Tp Int) (Tp Int)) × Dat × Unit => clD a.1 a.2.1 a.2.2.1) (fun a => BookOk a.1 ∧ (a.2.2.1.isL = true → a.2.2.1.items.length ≤ 1000))) := by
  have nd := sc__law_closed.nd
  refine def_spF (k := 3) T.d__law_closed sc__law_closed rfl fun fa cdv A outer s H E hr => ?_
  refine ⟨_, pss_cons (ps_if (pt_not (pt_val (pe_callB (r := rIsi K) call_isi (by rfl) T.n_isinstance (by decide +kernel) (pa_cons (pv 2) (pa_cons (pe_bltn (v := .ty "list") (by rfl) T.n_list (by decide +kernel) rfl) pa_nil))))) (pss_cons (ps_ret (pe_bl))
      (pss_nil)) (pss_nil))
      (pss_cons (ps_set (i := 3) nd rfl (.inl rfl) pe_nnew)
      (pss_cons (ps_for PassesOwn.never rfl (pi_list (pv 2)) (pg_name (i := 4) nd rfl (.inl rfl))
      (pss_cons (ps_if (PW.pt (pw_or (pt_not (pt_val (pe_cal c__law_is_state hr (by decide) (by rfl) (pa_cons (pv 0) (pa_cons (pv 4) pa_nil))))) (pw_or1 (pt_cmp (pc_nin (hu2_of hr) (pv 4) (pv 3)))))) (pss_cons (ps_ret (pe_bl))
      (pss_nil)) (pss_nil))
      (pss_cons (ps_nput (hu2_of hr) (pv 3) (pv 4) (pe_bl) (by rfl))
      (pss_nil))))
      (pss_cons (ps_for PassesOwn.never rfl (pi_list (pv 2)) (pg_name (i := 4) nd rfl (.inl rfl))
      (pss_cons (ps_for PassesOwn.never rfl (pi_tup (pe_ix (r := rIxT K) ix_tup (pv 0) pe_int (fun _ _ => rfl))) (pg_name (i := 5) nd rfl (.inl rfl))
      (pss_cons (ps_if (PW.pt (pw_and (pt_val (pe_cal c__law_can hr (by decide) (by rfl) (pa_cons (pv 4) (pa_cons (pv 5) pa_nil)))) (pw_and1 (pt_cmp (pc_nnotin (hu2_of hr) (pe_cal c__law_comes hr (by decide) (by rfl) (pa_cons (pv 4) (pa_cons (pv 5) pa_nil))) (pv 3)))))) (pss_cons (ps_ret (pe_bl))
      (pss_nil)) (pss_nil))
      (pss_nil)))
      (pss_nil)))
      (pss_cons (ps_ret (pe_cmp (pc_nin (hu2_of hr) (pv 1) (pv 3))))
      (pss_nil))))), ?_⟩
  rintro ⟨book, first, things, _⟩ hpre B S0 Q hret
  show At _ _ _ _ [.im book, .im first, .im things, .no, .no, .no]
  obtain ⟨hbk, hle⟩ := hpre
  dsimp only at hbk hle
  refine q_if (et_not (et_B (ev_isLD (ev_var (i := 2) rfl)))) (fun hb0 => ?_) (fun hb0 => ?_)
  ·
    exact q_ret (ev_bl) (hret _ _ (by exact cl_ret0 hb0))
  ·
    refine q_next ?_
    refine q_nnew (T4 Int Int (Tp Int) (Tp Int)) Bool (i := 3) rfl ?_
    refine at_genO 3 rfl fun known h_known => ?_
    refine qg_inv (fun st_ : (DN (T4 Int Int (Tp Int) (Tp Int)) Bool) => [.im book, .im first, .im things, .ow st_, .no, .no]) (fun pre (st : DN RSt Bool) => ClI book pre st) known (it_list (EvX.asL (ev_var (i := 2) rfl) (by simpa using hb0))) (.k (.k (.k (.k (.d (.d .n)))))) (by rw [h_known]; exact ClI.start) (fun pre0 one post0 s0 ex0 hs0 Sb0 rb0 => ⟨_, _, tg_name rfl, ?_⟩) (fun s0 hs0 => ?_)
    ·
      show At _ _ _ _ [.im book, .im first, .im things, .ow s0, .im one, .no]
      have hle2 := hle (by simpa using hb0)
      have hkl := (ClI.kn hs0).len
      rw [List.length_map] at hkl
      have hpl : pre0.length < things.items.length := by rw [← ex0]; simp
      refine q_if (et_or (et_not (et_B (ev_call (ea_cons (ev_var (i := 0) rfl) (ea_cons (ev_var (i := 4) rfl) (ea_nil))) (by ((try dsimp only) <;> (repeat' (first | assumption | omega | refine And.intro ?_ ?_)) <;> first | trivial | assumption | omega | decide | simp))))) (fun hc0 => et_B (ev_nin (i := 3) (EvX.datS (ev_var (i := 4) rfl) (by first | exact (st_t (by simpa using hc0)).ex | exact (st_t (by simpa using (Bool.or_eq_false_iff.mp hb1).1)).ex | exact hsd.ex)) rfl))) (fun hb1 => ?_) (fun hb1 => ?_)
      ·
        exact q_ret (ev_bl) ((hret _ _ (by exact cl_ret1 hs0 hb0 ex0 hb1)).reb rb0)
      ·
        refine q_next ?_
        refine q_nput (i := 3) (ev_bl) rfl (EvX.datS (ev_var (i := 4) rfl) (by first | exact (st_t (by simpa using hc0)).ex | exact (st_t (by simpa using (Bool.or_eq_false_iff.mp hb1).1)).ex | exact hsd.ex)) rfl (by exact lt_line (by omega)) ?_
        refine at_genO 3 rfl fun known1 h_known1 => ?_
        show At _ _ _ _ [.im book, .im first, .im things, .ow known1, .im one, .no]
        exact q_next (at_mid (.k (.k (.k (.k (.d (.d .n)))))) ⟨known1, by rfl, by rw [h_known1]; exact cl_go hs0 hb1⟩)
    ·
      show At _ _ _ _ [.im book, .im first, .im things, .ow s0, .no, .no]
      refine qg_inv (fun st_ : Unit => [.im book, .im first, .im things, .ow s0, .no, .no]) (fun pre (_ : Unit) => ClR book things.items pre) () (it_list (EvX.asL (ev_var (i := 2) rfl) (by simpa using hb0))) (.k (.k (.k (.k (.d (.d .n)))))) (fun x hx => by cases hx) (fun pre1 one1 post1 s1 ex1 hs1 Sb1 rb1 => ⟨_, _, tg_name rfl, ?_⟩) (fun s1 hs1 => ?_)
      ·
        show At _ _ _ _ [.im book, .im first, .im things, .ow s0, .im one1, .no]
        have hsd := ClI.all hs0 ex1
        have hfew := hsd.ok.few hbk
        refine qg_inv (fun st_ : Unit => [.im book, .im first, .im things, .ow s0, .im one1, .no]) (fun pre (_ : Unit) => ClQ things.items (stOf one1) pre) () (it_tup (ev_4d (ev_var (i := 0) rfl))) (.k (.k (.k (.k (.k (.d .n)))))) (fun r hr => by cases hr) (fun pre2 rule post2 s2 ex2 hs2 Sb2 rb2 => ⟨_, _, tg_name rfl, ?_⟩) (fun s2 hs2 => ?_)
        ·
          show At _ _ _ _ [.im book, .im first, .im things, .ow s0, .im one1, .im rule]
          have hru := hbk.rules _ (in_pre ex2)
          refine q_if (et_and (et_B (ev_call (ea_cons (EvX.datS (ev_var (i := 4) rfl) (by first | exact (st_t (by simpa using hc0)).ex | exact (st_t (by simpa using (Bool.or_eq_false_iff.mp hb1).1)).ex | exact hsd.ex)) (ea_cons (ev_var (i := 5) rfl) (ea_nil))) (by exact hru.house))) (fun hc0 => et_B (ev_nnotin (i := 3) (ev_call (ea_cons (EvX.datS (ev_var (i := 4) rfl) (by first | exact (st_t (by simpa using hc0)).ex | exact (st_t (by simpa using (Bool.or_eq_false_iff.mp hb1).1)).ex | exact hsd.ex)) (ea_cons (ev_var (i := 5) rfl) (ea_nil))) (by exact ⟨hru.house, by dsimp only; omega, by dsimp only; omega⟩)) rfl))) (fun hb2 => ?_) (fun hb2 => ?_)
          ·
            exact q_ret (ev_bl) (((hret _ _ (by exact cl_ret2 hs0.kn hb0 ex1 (in_pre ex2) hb2)).reb rb1).reb rb2)
          ·
            refine q_next ?_
            exact q_next (at_mid (.k (.k (.k (.k (.k (.d .n)))))) ⟨(), by rfl, by exact ClQ.next hs2 hs0.kn hb2⟩)
        ·
          show At _ _ _ _ [.im book, .im first, .im things, .ow s0, .im one1, .no]
          exact q_next (at_mid (.k (.k (.k (.k (.d (.d .n)))))) ⟨(), by rfl, by exact ClR.next hs1 hs2⟩)
      ·
        show At _ _ _ _ [.im book, .im first, .im things, .ow s0, .no, .no]
        exact q_ret (ev_nin (i := 3) (ev_var (i := 1) rfl) rfl) (hret _ _ (by exact cl_ret3 hs0 hb0 hs1))
end
theorem sc__law_due : FnScope ["book", "thing", "states", "one"] ["book", "thing"] (defScope s__law_due) := ⟨rfl, rfl, rfl, by decide +kernel, rfl, by decide +kernel, by decide +kernel⟩
section
variable {P : Program} {w : World} {K : Fg} {mg : Str → Option Value} {base : Heap}
set_option maxHeartbeats 4000000 in
theorem ok__law_due {Y : XC → Addr} (T : Tx K mg Y) (c__law_along : Cal P w K mg base 2 "_law_along" ["book", "steps"] (spF K (fun a : (T4 (Tp Bool) (Tp Bool) Int (Tp (T5 Int Int (Option Int) Int (Option Int)))) × (List Dat) × Unit => alongM a.1 a.2.1) (fun a => BookOk a.1 ∧ a.2.1.length ≤ 2000))) (c__law_closed : Cal P w K mg base 4 "_law_closed" ["book", "first", "things"] (spF K (fun a : (T4 (Tp Bool) (Tp Bool) Int (Tp (T5 Int Int (Option Int) Int (Option Int)))) × (T4 Int Int (Tp Int) (Tp Int)) × Dat × Unit => clD a.1 a.2.1 a.2.2.1) (fun a => BookOk a.1 ∧ (a.2.2.1.isL = true → a.2.2.1.items.length ≤ 1000)))) (c__law_running : Cal P w K mg base 1 "_law_running" ["book", "state"] (spF K (fun a : (T4 (Tp Bool) (Tp Bool) Int (Tp (T5 Int Int (Option Int) Int (Option Int)))) × (T4 Int Int (Tp Int) (Tp Int)) × Unit => rnsM a.1 a.2.1) (fun a => StOk a.1 a.2.1))) : Cal P w K mg base 5 "_law_due" ["book", "thing"] (spF K (fun a : (T4 (Tp Bool) (Tp Bool) Int (Tp (T5 Int Int (Option Int) Int (Option Int)))) × Dat × Unit => tworD a.1 a.2.1) (fun a => BookOk a.1 ∧ ThOk a.2.1)) := by
  have nd := sc__law_due.nd
  refine def_spF (k := 4) T.d__law_due sc__law_due rfl fun fa cdv A outer s H E hr => ?_
  refine ⟨_, pss_cons (ps_if (PW.pt (pw_or (pt_not (pt_val (pe_callB (r := rIsi K) call_isi (by rfl) T.n_isinstance (by decide +kernel) (pa_cons (pv 1) (pa_cons (pe_bltn (v := .ty "tuple") (by rfl) T.n_tuple (by decide +kernel) rfl) pa_nil))))) (pw_or (pt_cmpR op_ne (pe_callB call_lenG (by rfl) T.n_len (by decide +kernel) (pa_cons (pv 1) pa_nil)) (pe_int) (nomark _)) (pw_or1 (pt_not (pt_val (pe_callB (r := rIsi K) call_isi (by rfl) T.n_isinstance (by decide +kernel) (pa_cons (pe_ix (r := rIxT K) ix_tup (pv 1) (pe_int) (fun _ _ => rfl)) (pa_cons (pe_bltn (v := .ty "list") (by rfl) T.n_list (by decide +kernel) rfl) pa_nil))))))))) (pss_cons (ps_ret (pe_bl))
      (pss_nil)) (pss_nil))
      (pss_cons (ps_if (pt_cmpR (r := rEqD K) (op_eqD hr.units) (pe_ix (r := rIxT K) ix_tup (pv 1) (pe_int) (fun _ _ => rfl)) (pe_str) (nomark _)) (pss_cons (ps_set (i := 2) nd rfl (.inl rfl) (pe_cal c__law_along hr (by decide) (by rfl) (pa_cons (pv 0) (pa_cons (pe_ix (r := rIxT K) ix_tup (pv 1) (pe_int) (fun _ _ => rfl)) pa_nil))))
      (pss_cons (ps_ret (pe_and (pe_cmp (pc_notN (pv 2))) (pe_one (pe_cmpR op_eq (pe_callB call_lenG (by rfl) T.n_len (by decide +kernel) (pa_cons (pe_cal c__law_running hr (by decide) (by rfl) (pa_cons (pv 0) (pa_cons (pe_ix (r := rIxL K) ix_list (pv 2) (pe_un un_neg (pe_int)) (fun _ _ => rfl)) pa_nil))) pa_nil)) (pe_int) (nomark _)))))
      (pss_nil))) (pss_nil))
      (pss_cons (ps_if (PW.pt (pw_or (pt_cmpR (r := rNeD K) (op_neD hr.units) (pe_ix (r := rIxT K) ix_tup (pv 1) (pe_int) (fun _ _ => rfl)) (pe_str) (nomark _)) (pw_or1 (pt_not (pt_val (pe_cal c__law_closed hr (by decide) (by rfl) (pa_cons (pv 0) (pa_cons (pe_tup (pa_cons (pe_int) (pa_cons (pe_int) (pa_cons (pe_tup (pa_nil)) (pa_cons (pe_tup (pa_nil)) pa_nil))))) (pa_cons (pe_ix (r := rIxT K) ix_tup (pv 1) (pe_int) (fun _ _ => rfl)) pa_nil))))))))) (pss_cons (ps_ret (pe_bl))
      (pss_nil)) (pss_nil))
      (pss_cons (ps_ret (pe_cmpR (r := rEqNl K) (op_eqNl (Nat.lt_of_succ_lt (hu_of hr))) (pe_lc (own := [("one", 3)]) (g := gName 3) (by rfl) nd (pi_list (pe_ix (r := rIxT K) ix_tup (pv 1) (pe_int) (fun _ _ => rfl))) (blkOk_by (N := ["book", "thing", "states", "one"]) (sc := defScope s__law_due) (by decide +kernel)) (fun _ _ _ _ _ => pg_name (i := 3) nd rfl (.inl rfl) (.inr rfl)) (fun _ _ _ _ _ => pts_one (pt_cmpR op_eq (pe_callB (r := rLenS K) call_lenG (by rfl) T.n_len (by decide +kernel) (pa_cons (pe_cal c__law_running hr (by decide) (by rfl) (pa_cons (pv 0) (pa_cons (pv 3) pa_nil))) pa_nil)) (pe_int) (nomark _))) (fun _ _ _ _ _ => pv 3)) (pe_lst pa_nil) (nomark _)))
      (pss_nil)))), ?_⟩
  rintro ⟨book, thing, _⟩ hpre B S0 Q hret
  show At _ _ _ _ [.im book, .im thing, .no, .no]
  obtain ⟨hbk, hth⟩ := hpre
  dsimp only at hbk hth
  refine q_if (et_or (et_not (et_B (ev_isTD (ev_var (i := 1) rfl)))) (fun hc0 => et_or (et_test (ev_ne (ev_lenT (EvX.asT (ev_var (i := 1) rfl) (by first | (simpa using hc0) | exact (two_two (du_three' hb0).1).1))) (ev_int))) (fun hc1 => et_not (et_B (ev_isLD (ev_ixT (EvX.asT (ev_var (i := 1) rfl) (by first | (simpa using hc0) | exact (two_two (du_three' hb0).1).1)) (ev_int) (by first | exact ⟨by decide, by show _ < (thing.items.length : Int); rw [(two_two (du_three' hb0).1).2]; decide⟩ | (have h9 : ((thing.items.length : Nat) : Int) = 2 := (by simpa using hc1); exact ⟨by decide, by show _ < ((thing.items.length : Nat) : Int); omega⟩)))))))) (fun hb0 => ?_) (fun hb0 => ?_)
  ·
    exact q_ret (ev_bl) (hret _ _ (by exact law_ret0 hb0))
  ·
    refine q_next ?_
    refine q_if (et_test (ev_eqDS (ev_ixT (EvX.asT (ev_var (i := 1) rfl) (by first | (simpa using hc0) | exact (two_two (du_three' hb0).1).1)) (ev_int) (by first | exact ⟨by decide, by show _ < (thing.items.length : Int); rw [(two_two (du_three' hb0).1).2]; decide⟩ | (have h9 : ((thing.items.length : Nat) : Int) = 2 := (by simpa using hc1); exact ⟨by decide, by show _ < ((thing.items.length : Nat) : Int); omega⟩))) (by exact hth.sh (ix_memD (by decide) (by rw [(two_two (du_three' hb0).1).2]; decide))) (by decide +kernel))) (fun hb1 => ?_) (fun hb1 => ?_)
    ·
      refine qg_set 2 (ev_call (ea_cons (ev_var (i := 0) rfl) (ea_cons (EvX.asL (ev_ixT (EvX.asT (ev_var (i := 1) rfl) (by first | (simpa using hc0) | exact (two_two (du_three' hb0).1).1)) (ev_int) (by first | exact ⟨by decide, by show _ < (thing.items.length : Int); rw [(two_two (du_three' hb0).1).2]; decide⟩ | (have h9 : ((thing.items.length : Nat) : Int) = 2 := (by simpa using hc1); exact ⟨by decide, by show _ < ((thing.items.length : Nat) : Int); omega⟩))) (by first | exact (du_three' hb0).2 | exact (cl_all (two_nc hb2).2).1)) (ea_nil))) (by exact ⟨hbk, Nat.le_trans (hth.le _ (ix_memD (by decide) (by rw [(two_two (du_three' hb0).1).2]; decide))) (by decide)⟩)) rfl fun states h_states => ?_
      exact q_ret (ev_andV (ev_notN (by exact nn_list) (ev_var (i := 2) rfl)) (fun hc0 => ev_eq (ev_len (EvX.c (ev_call (ea_cons (ev_var (i := 0) rfl) (ea_cons (ev_last (EvX.get (α := (List (T4 Int Int (Tp Int) (Tp Int)))) (ev_var (i := 2) rfl) (by exact hc0)) (ev_neg (ev_int)) (by have h9 := alongM_ok hbk (h_states.symm.trans (getD_some (d := default) hc0)); have h8 := h9.len; omega)) (ea_nil))) (by first | exact (alongM_ok hbk (h_states.symm.trans (getD_some (d := default) hc0))).last | exact ((cl_all (two_nc hb2).2).2 _ hm_x).ok)))) (ev_int))) (hret _ _ (by exact law_ret1 hb0 hb1 h_states))
    ·
      refine q_next ?_
      refine q_if (et_or (et_test (ev_neDS (ev_ixT (EvX.asT (ev_var (i := 1) rfl) (by first | (simpa using hc0) | exact (two_two (du_three' hb0).1).1)) (ev_int) (by first | exact ⟨by decide, by show _ < (thing.items.length : Int); rw [(two_two (du_three' hb0).1).2]; decide⟩ | (have h9 : ((thing.items.length : Nat) : Int) = 2 := (by simpa using hc1); exact ⟨by decide, by show _ < ((thing.items.length : Nat) : Int); omega⟩))) (by exact hth.sh (ix_memD (by decide) (by rw [(two_two (du_three' hb0).1).2]; decide))) (by decide +kernel))) (fun hc0 => et_not (et_B (ev_call (ea_cons (ev_var (i := 0) rfl) (ea_cons (ev_t4 (ev_int) (ev_int) (ev_tp (els_nil (α := Int)) (by simp)) (ev_tp (els_nil (α := Int)) (by simp))) (ea_cons (ev_ixT (EvX.asT (ev_var (i := 1) rfl) (by first | (simpa using hc0) | exact (two_two (du_three' hb0).1).1)) (ev_int) (by first | exact ⟨by decide, by show _ < (thing.items.length : Int); rw [(two_two (du_three' hb0).1).2]; decide⟩ | (have h9 : ((thing.items.length : Nat) : Int) = 2 := (by simpa using hc1); exact ⟨by decide, by show _ < ((thing.items.length : Nat) : Int); omega⟩))) (ea_nil)))) (by exact ⟨hbk, fun _ => hth.le _ (ix_memD (by decide) (by rw [(two_two (du_three' hb0).1).2]; decide))⟩))))) (fun hb2 => ?_) (fun hb2 => ?_)
      ·
        exact q_ret (ev_bl) (hret _ _ (by exact two_ret2 (du_three' hb0).1 hb1 hb2))
      ·
        refine q_next ?_
        exact q_ret (ev_eqNl (EvL.c (el_lcF _ _ (it_list (EvX.asL (ev_ixT (EvX.asT (ev_var (i := 1) rfl) (by first | (simpa using hc0) | exact (two_two (du_three' hb0).1).1)) (ev_int) (by first | exact ⟨by decide, by show _ < (thing.items.length : Int); rw [(two_two (du_three' hb0).1).2]; decide⟩ | (have h9 : ((thing.items.length : Nat) : Int) = 2 := (by simpa using hc1); exact ⟨by decide, by show _ < ((thing.items.length : Nat) : Int); omega⟩))) (by first | exact (du_three' hb0).2 | exact (cl_all (two_nc hb2).2).1))) (by exact Nat.le_trans (hth.le _ (ix_memD (by decide) (by rw [(two_two (du_three' hb0).1).2]; decide))) (by decide)) rfl (fun x hm_x => ⟨_, _, tg_name rfl, (by decide), et_test (ev_eq (ev_len (EvX.c (ev_call (ea_cons (ev_var (i := 0) rfl) (ea_cons (EvX.datS (ev_var (i := 3) rfl) (by exact ((cl_all (two_nc hb2).2).2 _ hm_x).ex)) (ea_nil))) (by first | exact (alongM_ok hbk (h_states.symm.trans (getD_some (d := default) hc0))).last | exact ((cl_all (two_nc hb2).2).2 _ hm_x).ok)))) (ev_int)), fun hf_x => ev_var (i := 3) rfl⟩)))) (hret _ _ (by exact law_ret3 hb0 hb1 hb2 (by simp only [List.map_id'])))
end
theorem sc__law_letters : FnScope ["book", "one", "k"] ["book", "one"] (defScope s__law_letters) := ⟨rfl, rfl, rfl, by decide +kernel, rfl, by decide +kernel, by decide +kernel⟩
section
variable {P : Program} {w : World} {K : Fg} {mg : Str → Option Value} {base : Heap}
set_option maxHeartbeats 4000000 in
theorem ok__law_letters {Y : XC → Addr} (T : Tx K mg Y) (c__law_stir : Cal P w K mg base 1 "_law_stir" ["cell", "k"] (spF K (fun a : Int × Int × Unit => stirM a.1 a.2.1) (fun a => 0 ≤ a.2.1 ∧ a.2.1 ≤ 1000))) : Cal P w K mg base 2 "_law_letters" ["book", "one"] (spF K (fun a : (T4 (Tp Bool) (Tp Bool) Int (Tp (T5 Int Int (Option Int) Int (Option Int)))) × Int × Unit => letsM a.1 a.2.1) (fun a => BookOk a.1)) := by
  have nd := sc__law_letters.nd
  refine def_spF (k := 1) T.d__law_letters sc__law_letters rfl fun fa cdv A outer s H E hr => ?_
  refine ⟨_, pss_cons (ps_ret (pe_callTy call_tupG (by rfl) T.n_tuple (by decide +kernel) (pa_cons (pe_lc (own := [("k", 2)]) (g := gName 2) (by rfl) nd (pi_range1 (by rfl) T.n_range (pa_cons (pe_ix (r := rIxT K) ix_tup (pv 0) pe_int (fun _ _ => rfl)) pa_nil)) (blkOk_by (N := ["book", "one", "k"]) (sc := defScope s__law_letters) (by decide +kernel)) (fun _ _ _ _ _ => pg_name (i := 2) nd rfl (.inl rfl) (.inr rfl)) (fun _ _ _ _ _ => pts_one (pt_cmpR op_eq (pe_op op_mod (pe_cal c__law_stir hr (by decide) (by rfl) (pa_cons (pv 1) (pa_cons (pv 2) pa_nil))) (pe_int)) (pe_int) (nomark _))) (fun _ _ _ _ _ => pv 2)) pa_nil)))
      (pss_nil), ?_⟩
  rintro ⟨book, one, _⟩ hpre B S0 Q hret
  show At _ _ _ _ [.im book, .im one, .no]
  have hbk : BookOk book := hpre
  have hlt := hbk.letters
  exact q_ret (ev_tup (EvL.c (el_lcF _ _ (it_rng1 (ev_4c (ev_var (i := 0) rfl)) (by omega)) (by rw [len_rng]; omega) rfl (fun x hm_x => ⟨_, _, tg_name rfl, (by decide), et_test (ev_eq (ev_iC (ev_call (ea_cons (ev_var (i := 1) rfl) (ea_cons (ev_var (i := 2) rfl) (ea_nil))) (by have h9 := mem_rng.mp hm_x; exact ⟨by dsimp only; omega, by dsimp only; omega⟩)) (ev_int) (by first | decide | (show (0 : Int) < _; omega))) (ev_int)), fun hf_x => ev_var (i := 2) rfl⟩)))) (hret _ _ (by unfold letsM; simp only [List.map_id']))
end
theorem sc__law_start : FnScope ["book", "found", "some", "old", "new", "first", "second", "more", "stands"] ["book", "found", "some"] (defScope s__law_start) := ⟨rfl, rfl, rfl, by decide +kernel, rfl, by decide +kernel, by decide +kernel⟩
section
variable {P : Program} {w : World} {K : Fg} {mg : Str → Option Value} {base : Heap}
set_option maxHeartbeats 4000000 in
theorem ok__law_start {Y : XC → Addr} (T : Tx K mg Y) (c__law_letters : Cal P w K mg base 2 "_law_letters" ["book", "one"] (spF K (fun a : (T4 (Tp Bool) (Tp Bool) Int (Tp (T5 Int Int (Option Int) Int (Option Int)))) × Int × Unit => letsM a.1 a.2.1) (fun a => BookOk a.1))) : Cal P w K mg base 3 "_law_start" ["book", "found", "some"] (spF K (fun a : (T4 (Tp Bool) (Tp Bool) Int (Tp (T5 Int Int (Option Int) Int (Option Int)))) × (List (T4 Int Int (Tp Int) (Tp Int))) × (List Int) × Unit => startM a.1 a.2.1 a.2.2.1) (fun a => BookOk a.1 ∧ (∀ s ∈ a.2.1, StOk a.1 s) ∧ a.2.1 ≠ [] ∧ 5 ≤ a.2.2.1.length)) := by
  have nd := sc__law_start.nd
  refine def_spF (k := 2) T.d__law_start sc__law_start rfl fun fa cdv A outer s H E hr => ?_
  refine ⟨_, pss_cons (ps_if (pt_cmpR op_eq (pe_op op_mod (pe_ix (r := rIxL K) ix_list (pv 2) (pe_int) (fun _ _ => rfl)) (pe_int)) (pe_int) (nomark _)) (pss_cons (ps_asg (pe_ix (r := rIxL K) ix_list (pv 1) (pe_op op_mod (pe_ix (r := rIxL K) ix_list (pv 2) (pe_int) (fun _ _ => rfl)) (pe_callB call_lenG (by rfl) T.n_len (by decide +kernel) (pa_cons (pv 1) pa_nil))) (fun _ _ => rfl)) (pg_tup rfl (pgs_cons (pg_name (i := 3) nd rfl (.inl rfl)) (pgs_cons (pg_name (i := 4) nd rfl (.inl rfl)) (pgs_cons (pg_name (i := 5) nd rfl (.inl rfl)) (pgs_cons (pg_name (i := 6) nd rfl (.inl rfl)) (pgs_nil)))))))
      (pss_cons (ps_set (i := 7) nd rfl (.inl rfl) (pe_callTy call_tupG (by rfl) T.n_tuple (by decide +kernel) (pa_cons (pe_sortSetT rfl (by rfl) T.n_sorted (by rfl) T.n_set (pe_op op_catA (pv 5) (pe_cal c__law_letters hr (by decide) (by rfl) (pa_cons (pv 0) (pa_cons (pe_ix (r := rIxL K) ix_list (pv 2) (pe_int) (fun _ _ => rfl)) pa_nil))))) pa_nil)))
      (pss_cons (ps_ret (pe_tup (pa_cons (pv 3) (pa_cons (pv 4) (pa_cons (pv 7) (pa_cons (pv 6) pa_nil))))))
      (pss_nil)))) (pss_nil))
      (pss_cons (ps_set (i := 8) nd rfl (.inl rfl) (pe_tup (pa_cons (pe_op op_mod (pe_ix (r := rIxL K) ix_list (pv 2) (pe_int) (fun _ _ => rfl)) (pe_callB call_lenG (by rfl) T.n_len (by decide +kernel) (pa_cons (pe_ix (r := rIxT K) ix_tup (pv 0) pe_int (fun _ _ => rfl)) pa_nil))) (pa_cons (pe_op op_mod (pe_ix (r := rIxL K) ix_list (pv 2) (pe_int) (fun _ _ => rfl)) (pe_callB call_lenG (by rfl) T.n_len (by decide +kernel) (pa_cons (pe_ix (r := rIxT K) ix_tup (pv 0) pe_int (fun _ _ => rfl)) pa_nil))) pa_nil))))
      (pss_cons (ps_ret (pe_op (r := rCatA K) op_catA (pv 8) (pe_tup (pa_cons (pe_cal c__law_letters hr (by decide) (by rfl) (pa_cons (pv 0) (pa_cons (pe_ix (r := rIxL K) ix_list (pv 2) (pe_int) (fun _ _ => rfl)) pa_nil))) (pa_cons (pe_cal c__law_letters hr (by decide) (by rfl) (pa_cons (pv 0) (pa_cons (pe_ix (r := rIxL K) ix_list (pv 2) (pe_int) (fun _ _ => rfl)) pa_nil))) pa_nil)))))
      (pss_nil))), ?_⟩
  rintro ⟨book, found, some, _⟩ hpre B S0 Q hret
  show At _ _ _ _ [.im book, .im found, .im some, .no, .no, .no, .no, .no, .no]
  obtain ⟨hbk, hso, hne, hsl⟩ := hpre
  dsimp only at hbk hso hne hsl
  have hfl := List.length_pos_iff.mpr hne
  have hbo := hbk.old
  have hbn := hbk.new
  refine q_if (et_test (ev_eq (ev_iC (ev_ix (ev_var (i := 2) rfl) (ev_int) (by first | exact ⟨by decide, by omega⟩ | exact modB (by omega))) (ev_int) (by first | decide | omega)) (ev_int))) (fun hb0 => ?_) (fun hb0 => ?_)
  ·
    refine qg_t4 3 4 5 6 (ev_ix (ev_var (i := 1) rfl) (ev_iC (ev_ix (ev_var (i := 2) rfl) (ev_int) (by first | exact ⟨by decide, by omega⟩ | exact modB (by omega))) (ev_len (EvX.c (ev_var (i := 1) rfl))) (by first | decide | omega)) (by first | exact ⟨by decide, by omega⟩ | exact modB (by omega))) rfl rfl rfl rfl fun old new first second h_old h_new h_first h_second => ?_
    refine qg_set 7 (ev_tup (EvL.c (ev_sortSetT (ev_catT (ev_var (i := 5) rfl) (ev_call (ea_cons (ev_var (i := 0) rfl) (ea_cons (ev_ix (ev_var (i := 2) rfl) (ev_int) (by first | exact ⟨by decide, by omega⟩ | exact modB (by omega))) (ea_nil))) (by exact hbk)) (by have h8 := lets_few (b := book) (one := ix some 2) hbk; have h9 := ((mod_memS (k := ix some 1) hso hfl).few hbk).1; rw [← h_first] at h9; exact le_line (by dsimp only; omega))) (by have h8 := lets_few (b := book) (one := ix some 2) hbk; have h9 := ((mod_memS (k := ix some 1) hso hfl).few hbk).1; rw [← h_first] at h9; show (first.l ++ (letsM book (ix some 2)).l).length < 64; rw [List.length_append]; omega)))) rfl fun more h_more => ?_
    exact q_ret (ev_t4 (ev_var (i := 3) rfl) (ev_var (i := 4) rfl) (ev_var (i := 7) rfl) (ev_var (i := 6) rfl)) (hret _ _ (by rw [h_old, h_new, h_second, h_more, h_first]; exact start_r0 hb0))
  ·
    refine q_next ?_
    refine qg_set 8 (ev_pair (ev_iC (ev_ix (ev_var (i := 2) rfl) (ev_int) (by first | exact ⟨by decide, by omega⟩ | exact modB (by omega))) (ev_lenT (ev_4a (ev_var (i := 0) rfl))) (by first | decide | omega)) (ev_iC (ev_ix (ev_var (i := 2) rfl) (ev_int) (by first | exact ⟨by decide, by omega⟩ | exact modB (by omega))) (ev_lenT (ev_4b (ev_var (i := 0) rfl))) (by first | decide | omega))) rfl fun stands h_stands => ?_
    show At _ _ _ _ [.im book, .im found, .im some, .no, .no, .no, .no, .no, .im stands]
    exact q_ret (ev_cat22 (ev_var (i := 8) rfl) (ev_pair (ev_call (ea_cons (ev_var (i := 0) rfl) (ea_cons (ev_ix (ev_var (i := 2) rfl) (ev_int) (by first | exact ⟨by decide, by omega⟩ | exact modB (by omega))) (ea_nil))) (by exact hbk)) (ev_call (ea_cons (ev_var (i := 0) rfl) (ea_cons (ev_ix (ev_var (i := 2) rfl) (ev_int) (by first | exact ⟨by decide, by omega⟩ | exact modB (by omega))) (ea_nil))) (by exact hbk)))) (hret _ _ (by rw [h_stands]; exact start_r1 hb0))
end
theorem sc__law_gone_on : FnScope ["book", "starts", "most", "found", "known", "one", "at", "rule", "other"] ["book", "starts", "most"] (defScope s__law_gone_on) := ⟨rfl, rfl, rfl, by decide +kernel, rfl, by decide +kernel, by decide +kernel⟩
section
variable {P : Program} {w : World} {K : Fg} {mg : Str → Option Value} {base : Heap}
set_option maxHeartbeats 4000000 in
theorem ok__law_gone_on {Y : XC → Addr} (T : Tx K mg Y) (c__law_can : Cal P w K mg base 1 "_law_can" ["state", "rule"] (spF K (fun a : (T4 Int Int (Tp Int) (Tp Int)) × (T5 Int Int (Option Int) Int (Option Int)) × Unit => canM a.1 a.2.1) (fun a => 0 ≤ a.2.1.a ∧ a.2.1.a < 2))) (c__law_comes : Cal P w K mg base 1 "_law_comes" ["state", "rule"] (spF K (fun a : (T4 Int Int (Tp Int) (Tp Int)) × (T5 Int Int (Option Int) Int (Option Int)) × Unit => comesM a.1 a.2.1) (fun a => (0 ≤ a.2.1.a ∧ a.2.1.a < 2) ∧ (a.1.c.l.length ≤ 100 ∧ a.1.d.l.length ≤ 100)))) : Cal P w K mg base 2 "_law_gone_on" ["book", "starts", "most"] (spQ K (fun (a : (T4 (Tp Bool) (Tp Bool) Int (Tp (T5 Int Int (Option Int) Int (Option Int)))) × (List (T4 Int Int (Tp Int) (Tp Int))) × Int × Unit) (y : (List (T4 Int Int (Tp Int) (Tp Int)))) => (∀ s ∈ y, StOk a.1 s) ∧ y.length ≤ 120) (fun a => BookOk a.1 ∧ (∀ s ∈ a.2.1, StOk a.1 s) ∧ a.2.1.length ≤ 100 ∧ 0 ≤ a.2.2.1 ∧ a.2.2.1 ≤ 120)) := by
  have nd := sc__law_gone_on.nd
  refine def_spQ (k := 1) T.d__law_gone_on sc__law_gone_on rfl fun fa cdv A outer s H E hr => ?_
  refine ⟨_, pss_cons (ps_set (i := 3) nd rfl (.inl rfl) (pe_lst (pa_nil)))
      (pss_cons (ps_set (i := 4) nd rfl (.inl rfl) pe_nnew)
      (pss_cons (ps_for PassesOwn.never rfl (pi_list (pv 1)) (pg_name (i := 5) nd rfl (.inl rfl))
      (Evl.pss_cut (ps_if (pt_cmp (pc_nnotin (hu2_of hr) (pv 5) (pv 4))) (pss_cons (ps_nput (hu2_of hr) (pv 4) (pv 5) (pe_bl) (by rfl))
      (pss_cons (ps_expr (pe_bm PySem.F.plainAttrs_list PySem.F.slot_list_append PySem.F.type_list_append mt_append (pv 3) (pa_cons (pv 5) pa_nil)))
      (pss_nil))) (pss_nil))
      (pss_nil)))
      (pss_cons (ps_set (i := 6) nd rfl (.inl rfl) (pe_int))
      (pss_cons (ps_while PassesOwn.never (PW.pt (pw_and (pt_cmpR op_lt (pv 6) (pe_callB call_lenG (by rfl) T.n_len (by decide +kernel) (pa_cons (pv 3) pa_nil)) (nomark _)) (pw_and1 (pt_cmpR op_le (pe_callB call_lenG (by rfl) T.n_len (by decide +kernel) (pa_cons (pv 3) pa_nil)) (pv 2) (nomark _)))))
      (pss_cons (ps_for PassesOwn.never rfl (pi_tup (pe_ix (r := rIxT K) ix_tup (pv 0) pe_int (fun _ _ => rfl))) (pg_name (i := 7) nd rfl (.inl rfl))
      (Evl.pss_cut (ps_if (pt_val (pe_cal c__law_can hr (by decide) (by rfl) (pa_cons (pe_ix (r := rIxL K) ix_list (pv 3) (pv 6) (fun _ _ => rfl)) (pa_cons (pv 7) pa_nil)))) (pss_cons (ps_set (i := 8) nd rfl (.inl rfl) (pe_cal c__law_comes hr (by decide) (by rfl) (pa_cons (pe_ix (r := rIxL K) ix_list (pv 3) (pv 6) (fun _ _ => rfl)) (pa_cons (pv 7) pa_nil))))
      (Evl.pss_cut (ps_if (pt_cmp (pc_nnotin (hu2_of hr) (pv 8) (pv 4))) (pss_cons (ps_nput (hu2_of hr) (pv 4) (pv 8) (pe_bl) (by rfl))
      (pss_cons (ps_expr (pe_bm PySem.F.plainAttrs_list PySem.F.slot_list_append PySem.F.type_list_append mt_append (pv 3) (pa_cons (pv 8) pa_nil)))
      (pss_nil))) (pss_nil))
      (pss_nil))) (pss_nil))
      (pss_nil)))
      (pss_cons (ps_set (i := 6) nd rfl (.inl rfl) (pe_op op_add (pv 6) (pe_int)))
      (pss_nil))))
      (pss_cons (ps_if (pt_cmpR op_gt (pe_callB call_lenG (by rfl) T.n_len (by decide +kernel) (pa_cons (pv 3) pa_nil)) (pv 2) (nomark _)) (pss_cons (ps_ret (pe_callTy call_listG (by rfl) T.n_list (by decide +kernel) (pa_cons (pv 1) pa_nil)))
      (pss_nil)) (pss_nil))
      (pss_cons (ps_ret (pv 3))
      (pss_nil))))))), ?_⟩
  rintro ⟨book, starts, most, _⟩ hpre B S0 Q hret
  show At _ _ _ _ [.im book, .im starts, .im most, .no, .no, .no, .no, .no, .no]
  obtain ⟨hbk, hso, hsl, m0, m1⟩ := hpre
  dsimp only at hbk hso hsl m0 m1
  have hmn := hbk.many
  refine qg_own 3 (el_lst (els_nil (α := (T4 Int Int (Tp Int) (Tp Int)))) (by simp)) rfl fun found h_found => ?_
  refine q_nnew (T4 Int Int (Tp Int) (Tp Int)) Bool (i := 4) rfl ?_
  refine at_genO 4 rfl fun known h_known => ?_
  refine qg_inv (fun st_ : (List (T4 Int Int (Tp Int) (Tp Int))) × (DN (T4 Int Int (Tp Int) (Tp Int)) Bool) => [.im book, .im starts, .im most, .ow st_.1, .ow st_.2, .no, .no, .no, .no]) (fun pre (st : List RSt × DN RSt Bool) => GOn book st.1 st.2 ∧ st.1.length ≤ pre.length) (found, known) (it_list (ev_var (i := 1) rfl)) (.k (.k (.k (.k (.k (.d (.d (.d (.d .n))))))))) (by rw [h_found, h_known]; exact ⟨GOn.start, Nat.le_refl _⟩) (fun pre0 one post0 s0 ex0 hs0 Sb0 rb0 => ⟨_, _, tg_name rfl, ?_⟩) (fun s0 hs0 => ?_)
  ·
    obtain ⟨found_b, known_b⟩ := s0
    show At _ _ _ _ [.im book, .im starts, .im most, .ow found_b, .ow known_b, .im one, .no, .no, .no]
    obtain ⟨hG, hfl⟩ := hs0
    dsimp only at hG hfl
    have hkl := hG.kn.len
    have hpl : pre0.length < starts.length := by rw [← ex0]; simp
    have hone : StOk book one := hso _ (by rw [← ex0]; simp)
    refine q_cutI (fun st_ : (List (T4 Int Int (Tp Int) (Tp Int))) × (DN (T4 Int Int (Tp Int) (Tp Int)) Bool) => [.im book, .im starts, .im most, .ow st_.1, .ow st_.2, .im one, .no, .no, .no]) (fun st : List RSt × DN RSt Bool => GOn book st.1 st.2 ∧ st.1.length ≤ (pre0 ++ [one]).length) ?_ (fun sI0 hI_0 => ?_)
    · refine q_ifc (et_B (ev_nnotin (i := 4) (ev_var (i := 5) rfl) rfl)) (fun hb0 => ?_) (fun hb0 => ?_)
      ·
        refine q_nput (i := 4) (ev_bl) rfl (ev_var (i := 5) rfl) rfl (by exact lt_line (by omega)) ?_
        refine at_genO 4 rfl fun known1 h_known1 => ?_
        show At _ _ _ _ [.im book, .im starts, .im most, .ow found_b, .ow known1, .im one, .no, .no, .no]
        show At _ _ _ _ [.im book, .im starts, .im most, .ow found_b, .ow known1, .im one, .no, .no, .no]
        refine qg_app 3 rfl (ev_var (i := 5) rfl) rfl (by exact lt_line (by omega)) fun found1 h_found1 => ?_
        refine q_next ?_
        exact at_mid (.k (.k (.k (.k (.k (.k (.d (.d (.d .n))))))))) ⟨(found1, known1), rfl, by rw [h_found1, h_known1]; exact ⟨hG.add hone hb0, by dsimp only; rw [List.length_append, List.length_append]; simp; omega⟩⟩
      ·
        refine q_next ?_
        exact at_mid (.k (.k (.k (.k (.k (.k (.d (.d (.d .n))))))))) ⟨(found_b, known_b), rfl, by exact ⟨hG, by dsimp only; rw [List.length_append]; omega⟩⟩
    ·
      obtain ⟨found2, known2⟩ := sI0
      show At _ _ _ _ [.im book, .im starts, .im most, .ow found2, .ow known2, .im one, .no, .no, .no]
      exact q_next (at_mid (.k (.k (.k (.k (.k (.d (.d (.d (.d .n))))))))) ⟨(found2, known2), by rfl, by exact hI_0⟩)
  ·
    obtain ⟨found_e, known_e⟩ := s0
    show At _ _ _ _ [.im book, .im starts, .im most, .ow found_e, .ow known_e, .no, .no, .no, .no]
    refine qg_set 6 (ev_int) rfl fun at_ h_at_ => ?_
    refine qg_whI (fun st_ : (List (T4 Int Int (Tp Int) (Tp Int))) × (DN (T4 Int Int (Tp Int) (Tp Int)) Bool) × Int => [.im book, .im starts, .im most, .ow st_.1, .ow st_.2.1, .no, .im st_.2.2, .no, .no]) (fun st : List RSt × DN RSt Bool × Int => decide (st.2.2 < (st.1.length : Int)) && decide ((st.1.length : Int) ≤ most)) (found_e, known_e, at_) (fun st : List RSt × DN RSt Bool × Int => GOn book st.1 st.2.1 ∧ 0 ≤ st.2.2 ∧ st.1.length ≤ 300) (fun st : List RSt × DN RSt Bool × Int => (most + 2 - st.2.2).toNat) (.k (.k (.k (.k (.k (.d (.k (.d (.d .n))))))))) (by exact ⟨hs0.1, by rw [h_at_]; exact Int.le_refl _, by have h9 := hs0.2; dsimp only at h9 ⊢; omega⟩) (fun s1 hI1 => ?_) (fun s1 hI1 hc1 Sb1 rb1 => ?_) (fun s1 hI1 hc1 Sb1 rb1 => ?_)
    ·
      obtain ⟨found_c, known_c, at_c⟩ := s1
      show EvT _ _ [.im book, .im starts, .im most, .ow found_c, .ow known_c, .no, .im at_c, .no, .no] _ [.im book, .im starts, .im most, .ow found_c, .ow known_c, .no, .im at_c, .no, .no]
      exact et_and (et_test (ev_b0 (ev_var (i := 6) rfl) (ev_len (ec_own (i := 3) rfl)))) (fun hc => et_test (ev_b0 (ev_len (ec_own (i := 3) rfl)) (ev_var (i := 2) rfl)))
    ·
      obtain ⟨found_b1, known_b1, at_b⟩ := s1
      show At _ _ _ _ [.im book, .im starts, .im most, .ow found_b1, .ow known_b1, .no, .im at_b, .no, .no]
      obtain ⟨hG1, ha0, hfl1⟩ := hI1
      dsimp only at hG1 ha0 hfl1
      obtain ⟨ha, hm⟩ := and_dec hc1
      dsimp only at ha hm
      refine qg_inv (fun st_ : (List (T4 Int Int (Tp Int) (Tp Int))) × (DN (T4 Int Int (Tp Int) (Tp Int)) Bool) => [.im book, .im starts, .im most, .ow st_.1, .ow st_.2, .no, .im at_b, .no, .no]) (fun pre (st : List RSt × DN RSt Bool) => GOn book st.1 st.2 ∧ found_b1.length ≤ st.1.length ∧ st.1.length ≤ found_b1.length + pre.length) (found_b1, known_b1) (it_tup (ev_4d (ev_var (i := 0) rfl))) (.k (.k (.k (.k (.k (.d (.k (.d (.d .n))))))))) ⟨hG1, Nat.le_refl _, Nat.le_refl _⟩ (fun pre2 rule post2 s2 ex2 hs2 Sb2 rb2 => ⟨_, _, tg_name rfl, ?_⟩) (fun s2 hs2 => ?_)
      ·
        obtain ⟨found_b2, known_b2⟩ := s2
        show At _ _ _ _ [.im book, .im starts, .im most, .ow found_b2, .ow known_b2, .no, .im at_b, .im rule, .no]
        obtain ⟨hG2, hge2, hle2⟩ := hs2
        dsimp only at hG2 hge2 hle2
        have hkl2 := hG2.kn.len
        have hru := hbk.rules _ (in_pre ex2)
        have hrm := in_pre ex2
        have hpl2 : pre2.length < book.d.l.length := by rw [← ex2]; simp
        have hbd : 0 ≤ at_b ∧ at_b < ((found_b2.length : Nat) : Int) := by omega
        have hst : StOk book (ix found_b2 at_b) := hG2.ok _ (ix_mem hbd.1 hbd.2)
        have hfew := hst.few hbk
        refine q_cutI (fun st_ : (List (T4 Int Int (Tp Int) (Tp Int))) × (DN (T4 Int Int (Tp Int) (Tp Int)) Bool) => [.im book, .im starts, .im most, .ow st_.1, .ow st_.2, .no, .im at_b, .im rule, .no]) (fun st : List RSt × DN RSt Bool => GOn book st.1 st.2 ∧ found_b1.length ≤ st.1.length ∧ st.1.length ≤ found_b1.length + (pre2 ++ [rule]).length) ?_ (fun sI1 hI_1 => ?_)
        · refine q_ifc (et_B (ev_call (ea_cons (ev_ixC (ec_own (i := 3) rfl) (ev_var (i := 6) rfl) (by exact hbd)) (ea_cons (ev_var (i := 7) rfl) (ea_nil))) (by exact hru.house))) (fun hb1 => ?_) (fun hb1 => ?_)
          ·
            refine qg_set 8 (ev_call (ea_cons (ev_ixC (ec_own (i := 3) rfl) (ev_var (i := 6) rfl) (by exact hbd)) (ea_cons (ev_var (i := 7) rfl) (ea_nil))) (by exact ⟨hru.house, by dsimp only; omega, by dsimp only; omega⟩)) rfl fun other h_other => ?_
            refine q_cutI (fun st_ : (List (T4 Int Int (Tp Int) (Tp Int))) × (DN (T4 Int Int (Tp Int) (Tp Int)) Bool) => [.im book, .im starts, .im most, .ow st_.1, .ow st_.2, .no, .im at_b, .im rule, .im other]) (fun st : List RSt × DN RSt Bool => GOn book st.1 st.2 ∧ found_b1.length ≤ st.1.length ∧ st.1.length ≤ found_b1.length + (pre2 ++ [rule]).length) ?_ (fun sI2 hI_2 => ?_)
            · refine q_ifc (et_B (ev_nnotin (i := 4) (ev_var (i := 8) rfl) rfl)) (fun hb2 => ?_) (fun hb2 => ?_)
              ·
                refine q_nput (i := 4) (ev_bl) rfl (ev_var (i := 8) rfl) rfl (by exact lt_line (by omega)) ?_
                refine at_genO 4 rfl fun known3 h_known3 => ?_
                show At _ _ _ _ [.im book, .im starts, .im most, .ow found_b2, .ow known3, .no, .im at_b, .im rule, .im other]
                show At _ _ _ _ [.im book, .im starts, .im most, .ow found_b2, .ow known3, .no, .im at_b, .im rule, .im other]
                refine qg_app 3 rfl (ev_var (i := 8) rfl) rfl (by exact lt_line (by omega)) fun found3 h_found3 => ?_
                refine q_next ?_
                exact at_mid (.k (.k (.k (.k (.k (.d (.k (.k (.k .n))))))))) ⟨(found3, known3), rfl, by rw [h_found3, h_known3]; exact ⟨hG2.add (by rw [h_other]; exact comes_ok hbk hst hrm) hb2, by dsimp only; rw [List.length_append]; omega, by dsimp only; rw [List.length_append, List.length_append]; simp; omega⟩⟩
              ·
                refine q_next ?_
                exact at_mid (.k (.k (.k (.k (.k (.d (.k (.k (.k .n))))))))) ⟨(found_b2, known_b2), rfl, by exact ⟨hG2, hge2, by dsimp only; rw [List.length_append]; omega⟩⟩
            ·
              obtain ⟨found4, known4⟩ := sI2
              show At _ _ _ _ [.im book, .im starts, .im most, .ow found4, .ow known4, .no, .im at_b, .im rule, .im other]
              refine q_next ?_
              exact at_mid (.k (.k (.k (.k (.k (.d (.k (.k (.d .n))))))))) ⟨(found4, known4), rfl, by exact hI_2⟩
          ·
            refine q_next ?_
            exact at_mid (.k (.k (.k (.k (.k (.d (.k (.k (.d .n))))))))) ⟨(found_b2, known_b2), rfl, by exact ⟨hG2, hge2, by dsimp only; rw [List.length_append]; omega⟩⟩
        ·
          obtain ⟨found5, known5⟩ := sI1
          show At _ _ _ _ [.im book, .im starts, .im most, .ow found5, .ow known5, .no, .im at_b, .im rule, .no]
          exact q_next (at_mid (.k (.k (.k (.k (.k (.d (.k (.d (.d .n))))))))) ⟨(found5, known5), by rfl, by exact hI_1⟩)
      ·
        obtain ⟨found_e1, known_e1⟩ := s2
        show At _ _ _ _ [.im book, .im starts, .im most, .ow found_e1, .ow known_e1, .no, .im at_b, .no, .no]
        refine qg_set 6 (ev_i0 (ev_var (i := 6) rfl) (ev_int)) rfl fun at_1 h_at_1 => ?_
        refine q_next (at_mid (.k (.k (.k (.k (.k (.d (.k (.d (.d .n))))))))) ⟨(found_e1, known_e1, at_1), by rfl, ?_, ?_⟩)
        · obtain ⟨q1, q2, q3⟩ := hs2; exact ⟨q1, by dsimp only; rw [h_at_1]; omega, by dsimp only at q3 ⊢; omega⟩
        · show (most + 2 - at_1).toNat < (most + 2 - at_b).toNat; rw [h_at_1]; omega
    ·
      obtain ⟨found_e2, known_e2, at_e⟩ := s1
      show At _ _ _ _ [.im book, .im starts, .im most, .ow found_e2, .ow known_e2, .no, .im at_e, .no, .no]
      obtain ⟨hG1, ha0, hfl1⟩ := hI1
      dsimp only at hG1 ha0 hfl1
      refine q_if (et_test (ev_b0 (ev_len (ec_own (i := 3) rfl)) (ev_var (i := 2) rfl))) (fun hb3 => ?_) (fun hb3 => ?_)
      ·
        exact q_ret (EvL.ev (el_list (EvX.c (ev_var (i := 1) rfl)))) ((hret _ _ (by exact ⟨hso, by first | omega | (dsimp only; omega)⟩)).reb rb1)
      ·
        refine q_next ?_
        refine at_relL (i := 3) rfl ?_
        exact q_ret (ev_var (i := 3) rfl) ((hret _ _ (by exact ⟨hG1.ok, by have h9 := of_decide_eq_false hb3; first | omega | (dsimp only; omega)⟩)).reb rb1)
end
theorem sc__law_held : FnScope ["book", "thing", "kept", "told"] ["book", "thing"] (defScope s__law_held) := ⟨rfl, rfl, rfl, by decide +kernel, rfl, by decide +kernel, by decide +kernel⟩
section
variable {P : Program} {w : World} {K : Fg} {mg : Str → Option Value} {base : Heap}
set_option maxHeartbeats 4000000 in
theorem ok__law_held {Y : XC → Addr} (T : Tx K mg Y) (c__law_due : Cal P w K mg base 5 "_law_due" ["book", "thing"] (spF K (fun a : (T4 (Tp Bool) (Tp Bool) Int (Tp (T5 Int Int (Option Int) Int (Option Int)))) × Dat × Unit => tworD a.1 a.2.1) (fun a => BookOk a.1 ∧ ThOk a.2.1))) (c_is_two_run : Cal P w K mg base 5 "is_two_run" ["book", "thing"] (spF K (fun a : (T4 (Tp Bool) (Tp Bool) Int (Tp (T5 Int Int (Option Int) Int (Option Int)))) × Dat × Unit => tworD a.1 a.2.1) (fun a => BookOk a.1 ∧ ThOk a.2.1))) : CalG P w K mg base 6 "_law_held" ["book", "thing"] (spF K (fun a : (T4 (Tp Bool) (Tp Bool) Int (Tp (T5 Int Int (Option Int) Int (Option Int)))) × Dat × Unit => true) (fun a => BookOk a.1 ∧ ThOk a.2.1 ∧ ShOk a.2.1)) := by
  have nd := sc__law_held.nd
  refine def_spFG (k := 5) T.d__law_held sc__law_held rfl fun fa cdv A outer s H E hg hr => ?_
  refine ⟨_, pss_cons (ps_set (i := 2) nd rfl (.inl rfl) (pe_callB (call_repr hg hr.units) (by rfl) T.n_repr (by decide +kernel) (pa_cons (pv 1) pa_nil)))
      (pss_cons (ps_set (i := 3) nd rfl (.inl rfl) (pe_cal c_is_two_run hr (by decide) (by rfl) (pa_cons (pv 0) (pa_cons (pv 1) pa_nil))))
      (pss_cons (ps_ret (pe_and (pe_callB (r := rIsi K) call_isi (by rfl) T.n_isinstance (by decide +kernel) (pa_cons (pv 3) (pa_cons (pe_bltn (v := .ty "bool") (by rfl) T.n_bool (by decide +kernel) rfl) pa_nil))) (pe_and (pe_cmpR op_eq (pe_callB (call_repr hg hr.units) (by rfl) T.n_repr (by decide +kernel) (pa_cons (pv 1) pa_nil)) (pv 2) (nomark _)) (pe_one (pe_cmpR op_eq (pv 3) (pe_cal c__law_due hr (by decide) (by rfl) (pa_cons (pv 0) (pa_cons (pv 1) pa_nil))) (nomark _))))))
      (pss_nil))), ?_⟩
  rintro ⟨book, thing, _⟩ hpre B S0 Q hret
  show At _ _ _ _ [.im book, .im thing, .no, .no]
  obtain ⟨hbk, hth, hsh⟩ := hpre
  dsimp only at hbk hth hsh
  refine qg_set 2 (ev_repr (ev_var (i := 1) rfl) (by exact hsh)) rfl fun kept h_kept => ?_
  refine qg_set 3 (ev_call (ea_cons (ev_var (i := 0) rfl) (ea_cons (ev_var (i := 1) rfl) (ea_nil))) (by exact ⟨hbk, hth⟩)) rfl fun told h_told => ?_
  exact q_ret (ev_andV (ev_isi (b := true) (ev_var (i := 3) rfl) (by decide +kernel)) (fun hc => ev_andV (ev_eq (ev_repr (ev_var (i := 1) rfl) (by exact hsh)) (ev_var (i := 2) rfl)) (fun hc => ev_eq (ev_var (i := 3) rfl) (ev_call (ea_cons (ev_var (i := 0) rfl) (ea_cons (ev_var (i := 1) rfl) (ea_nil))) (by exact ⟨hbk, hth⟩))))) (hret _ _ (by rw [h_kept, h_told]; simp))
end
theorem sc__law_bent_state : FnScope ["book", "state", "some", "old", "new", "first", "second", "odd"] ["book", "state", "some"] (defScope s__law_bent_state) := ⟨rfl, rfl, rfl, by decide +kernel, rfl, by decide +kernel, by decide +kernel⟩
section
variable {P : Program} {w : World} {K : Fg} {mg : Str → Option Value} {base : Heap}
set_option maxHeartbeats 4000000 in
theorem ok__law_bent_state {Y : XC → Addr} (T : Tx K mg Y)  : Cal P w K mg base 1 "_law_bent_state" ["book", "state", "some"] (spQ K (fun (a : (T4 (Tp Bool) (Tp Bool) Int (Tp (T5 Int Int (Option Int) Int (Option Int)))) × (T4 Int Int (Tp Int) (Tp Int)) × (List Int) × Unit) (y : Dat) => DSz 4 5000 y) (fun a => BookOk a.1 ∧ StOk a.1 a.2.1 ∧ 5 ≤ a.2.2.1.length)) := by
  have nd := sc__law_bent_state.nd
  refine def_spQ (k := 0) T.d__law_bent_state sc__law_bent_state rfl fun fa cdv A outer s H E hr => ?_
  refine ⟨_, pss_cons (ps_asg (pv 1) (pg_tup rfl (pgs_cons (pg_name (i := 3) nd rfl (.inl rfl)) (pgs_cons (pg_name (i := 4) nd rfl (.inl rfl)) (pgs_cons (pg_name (i := 5) nd rfl (.inl rfl)) (pgs_cons (pg_name (i := 6) nd rfl (.inl rfl)) (pgs_nil)))))))
      (pss_cons (ps_if (pt_cmpR op_eq (pe_op op_mod (pe_op op_fdiv (pe_ix (r := rIxL K) ix_list (pv 2) (pe_int) (fun _ _ => rfl)) (pe_int)) (pe_int)) (pe_int) (nomark _)) (pss_cons (ps_set (i := 7) nd rfl (.inl rfl) (pe_lst (pa_cons (pe_tup (pa_cons (pv 3) (pa_cons (pe_bl) (pa_cons (pv 5) (pa_cons (pv 6) pa_nil))))) (pa_cons (pe_tup (pa_cons (pv 3) (pa_cons (pe_cmpR op_eq (pv 4) (pe_int) (nomark _)) (pa_cons (pv 5) (pa_cons (pv 6) pa_nil))))) (pa_cons (pe_tup (pa_cons (pv 3) (pa_cons (pe_un un_neg (pe_int)) (pa_cons (pv 5) (pa_cons (pv 6) pa_nil))))) pa_nil)))))
      (pss_cons (ps_set (i := 7) nd rfl (.inl rfl) (pe_op op_cat (pv 7) (pe_lst (pa_cons (pe_tup (pa_cons (pv 3) (pa_cons (pe_non) (pa_cons (pv 5) (pa_cons (pv 6) pa_nil))))) (pa_cons (pe_tup (pa_cons (pv 3) (pa_cons (pe_str) (pa_cons (pv 5) (pa_cons (pv 6) pa_nil))))) (pa_cons (pe_tup (pa_cons (pe_callB call_lenG (by rfl) T.n_len (by decide +kernel) (pa_cons (pe_ix (r := rIxT K) ix_tup (pv 0) pe_int (fun _ _ => rfl)) pa_nil)) (pa_cons (pv 4) (pa_cons (pv 5) (pa_cons (pv 6) pa_nil))))) pa_nil))))))
      (pss_cons (ps_set (i := 7) nd rfl (.inl rfl) (pe_op op_cat (pv 7) (pe_lst (pa_cons (pe_tup (pa_cons (pe_non) (pa_cons (pv 4) (pa_cons (pv 5) (pa_cons (pv 6) pa_nil))))) (pa_cons (pe_tup (pa_cons (pv 3) (pa_cons (pv 4) (pa_cons (pe_tup (pa_cons (pe_bl) pa_nil)) (pa_cons (pv 6) pa_nil))))) (pa_cons (pe_tup (pa_cons (pv 3) (pa_cons (pv 4) (pa_cons (pe_tup (pa_cons (pe_un un_neg (pe_int)) pa_nil)) (pa_cons (pv 6) pa_nil))))) pa_nil))))))
      (pss_cons (ps_set (i := 7) nd rfl (.inl rfl) (pe_op op_cat (pv 7) (pe_lst (pa_cons (pe_tup (pa_cons (pv 3) (pa_cons (pv 4) (pa_cons (pe_tup (pa_cons (pe_non) (pa_cons (pe_int) pa_nil))) (pa_cons (pv 6) pa_nil))))) (pa_cons (pe_tup (pa_cons (pv 3) (pa_cons (pv 4) (pa_cons (pv 5) (pa_cons (pe_tup (pa_cons (pe_str) (pa_cons (pe_int) pa_nil))) pa_nil))))) (pa_cons (pe_tup (pa_cons (pv 3) (pa_cons (pv 4) (pa_cons (pe_tup (pa_cons (pe_lst (pa_nil)) pa_nil)) (pa_cons (pv 6) pa_nil))))) pa_nil))))))
      (pss_cons (ps_set (i := 7) nd rfl (.inl rfl) (pe_op op_cat (pv 7) (pe_lst (pa_cons (pe_tup (pa_cons (pv 3) (pa_cons (pv 4) (pa_cons (pv 5) (pa_cons (pe_callTy call_listG (by rfl) T.n_list (by decide +kernel) (pa_cons (pv 6) pa_nil)) pa_nil))))) (pa_cons (pe_tup (pa_cons (pv 3) (pa_cons (pv 4) (pa_cons (pe_non) (pa_cons (pv 6) pa_nil))))) (pa_cons (pe_tup (pa_cons (pv 3) (pa_cons (pv 4) (pa_cons (pv 5) (pa_cons (pe_non) pa_nil))))) pa_nil))))))
      (pss_cons (ps_ret (pe_ix (r := rIxL K) ix_list (pv 7) (pe_op op_mod (pe_ix (r := rIxL K) ix_list (pv 2) (pe_int) (fun _ _ => rfl)) (pe_int)) (fun _ _ => rfl)))
      (pss_nil))))))) (pss_nil))
      (pss_cons (ps_if (pt_cmpR op_eq (pe_op op_mod (pe_ix (r := rIxL K) ix_list (pv 2) (pe_int) (fun _ _ => rfl)) (pe_int)) (pe_int) (nomark _)) (pss_cons (ps_ret (pe_tup (pa_cons (pv 3) (pa_cons (pv 4) (pa_cons (pe_tupRevT rfl (by rfl) T.n_tuple (by rfl) T.n_reversed (pv 5)) (pa_cons (pv 6) pa_nil))))))
      (pss_nil)) (pss_nil))
      (pss_cons (ps_if (pt_cmpR op_eq (pe_op op_mod (pe_ix (r := rIxL K) ix_list (pv 2) (pe_int) (fun _ _ => rfl)) (pe_int)) (pe_int) (nomark _)) (pss_cons (ps_ret (pe_tup (pa_cons (pe_cmpR op_eq (pv 3) (pe_int) (nomark _)) (pa_cons (pv 4) (pa_cons (pv 5) (pa_cons (pv 6) pa_nil))))))
      (pss_nil)) (pss_nil))
      (pss_cons (ps_if (pt_cmpR op_eq (pe_op op_mod (pe_ix (r := rIxL K) ix_list (pv 2) (pe_int) (fun _ _ => rfl)) (pe_int)) (pe_int) (nomark _)) (pss_cons (ps_ret (pe_lst (pa_cons (pv 3) (pa_cons (pv 4) (pa_cons (pv 5) (pa_cons (pv 6) pa_nil))))))
      (pss_nil)) (pss_nil))
      (pss_cons (ps_if (pt_cmpR op_eq (pe_op op_mod (pe_ix (r := rIxL K) ix_list (pv 2) (pe_int) (fun _ _ => rfl)) (pe_int)) (pe_int) (nomark _)) (pss_cons (ps_ret (pe_tup (pa_cons (pv 3) (pa_cons (pe_op op_mod (pe_ix (r := rIxL K) ix_list (pv 2) (pe_int) (fun _ _ => rfl)) (pe_op op_add (pe_callB call_lenG (by rfl) T.n_len (by decide +kernel) (pa_cons (pe_ix (r := rIxT K) ix_tup (pv 0) pe_int (fun _ _ => rfl)) pa_nil)) (pe_int))) (pa_cons (pv 5) (pa_cons (pv 6) pa_nil))))))
      (pss_nil)) (pss_nil))
      (pss_cons (ps_if (pt_cmpR op_eq (pe_op op_mod (pe_ix (r := rIxL K) ix_list (pv 2) (pe_int) (fun _ _ => rfl)) (pe_int)) (pe_int) (nomark _)) (pss_cons (ps_ret (pe_tup (pa_cons (pv 3) (pa_cons (pv 4) (pa_cons (pv 5) (pa_cons (pe_op op_catA (pv 6) (pe_tup (pa_cons (pe_op op_mod (pe_ix (r := rIxL K) ix_list (pv 2) (pe_int) (fun _ _ => rfl)) (pe_op op_add (pe_ix (r := rIxT K) ix_tup (pv 0) pe_int (fun _ _ => rfl)) (pe_int))) pa_nil))) pa_nil))))))
      (pss_nil)) (pss_nil))
      (pss_cons (ps_ret (pe_tup (pa_cons (pe_op op_mod (pe_ix (r := rIxL K) ix_list (pv 2) (pe_int) (fun _ _ => rfl)) (pe_callB call_lenG (by rfl) T.n_len (by decide +kernel) (pa_cons (pe_ix (r := rIxT K) ix_tup (pv 0) pe_int (fun _ _ => rfl)) pa_nil))) (pa_cons (pv 4) (pa_cons (pv 5) (pa_cons (pv 6) pa_nil))))))
      (pss_nil)))))))), ?_⟩
  rintro ⟨book, state, some, _⟩ hpre B S0 Q hret
  show At _ _ _ _ [.im book, .im state, .im some, .no, .no, .no, .no, .no]
  obtain ⟨hbk, hst, hsl⟩ := hpre
  dsimp only at hbk hst hsl
  have hpo := parts_ok hbk hst
  have hbo := hbk.old
  have hbn := hbk.new
  have hlt := hbk.letters
  have pn : DSz 3 1100 (ToD.dat ((book.a.l.length : Nat) : Int) : Dat) := dsz_int (by omega) (by decide)
  refine qg_t4 3 4 5 6 (ev_var (i := 1) rfl) rfl rfl rfl rfl fun old new first second h_old h_new h_first h_second => ?_
  have pa : DSz 3 1100 (ToD.dat old : Dat) := by rw [h_old]; exact dsz_int (by have := hpo.a; omega) (by decide)
  have pb : DSz 3 1100 (ToD.dat new : Dat) := by rw [h_new]; exact dsz_int (by have := hpo.b; omega) (by decide)
  have pc : DSz 3 1100 (ToD.dat first : Dat) := by rw [h_first]; exact (dsz_ints (fun x hx => by have := hpo.c.1 x hx; omega) (by have := hpo.c.2; omega)).1
  have pd : DSz 3 1100 (ToD.dat second : Dat) := by rw [h_second]; exact (dsz_ints (fun x hx => by have := hpo.d.1 x hx; omega) (by have := hpo.d.2; omega)).1
  have pl : DSz 3 1100 (ToD.dat second.l : Dat) := by rw [h_second]; exact (dsz_ints (fun x hx => by have := hpo.d.1 x hx; omega) (by have := hpo.d.2; omega)).2
  refine q_if (et_test (ev_eq (ev_iC (ev_iC (ev_ix (ev_var (i := 2) rfl) (ev_int) (by first | exact ⟨by decide, by omega⟩ | (have h9 := ho4.2; rw [h9]; exact modB (by decide)))) (ev_int) (by first | exact ⟨by decide, by decide⟩ | exact ⟨by omega, by omega⟩)) (ev_int) (by first | decide | omega)) (ev_int))) (fun hb0 => ?_) (fun hb0 => ?_)
  ·
    refine qg_set 7 (EvL.ev (el_lst (els_cons (EvX.dat (ev_tp (els_cons (EvX.dat (ev_var (i := 3) rfl)) (els_cons (EvX.dat (ev_bl)) (els_cons (EvX.dat (ev_var (i := 5) rfl)) (els_cons (EvX.dat (ev_var (i := 6) rfl)) (els_nil))))) (by simp))) (els_cons (EvX.dat (ev_tp (els_cons (EvX.dat (ev_var (i := 3) rfl)) (els_cons (EvX.dat (ev_eq (ev_var (i := 4) rfl) (ev_int))) (els_cons (EvX.dat (ev_var (i := 5) rfl)) (els_cons (EvX.dat (ev_var (i := 6) rfl)) (els_nil))))) (by simp))) (els_cons (EvX.dat (ev_tp (els_cons (EvX.dat (ev_var (i := 3) rfl)) (els_cons (EvX.dat (ev_neg (ev_int))) (els_cons (EvX.dat (ev_var (i := 5) rfl)) (els_cons (EvX.dat (ev_var (i := 6) rfl)) (els_nil))))) (by simp))) (els_nil)))) (by simp))) rfl fun odd h_odd => ?_
    have ho0 : (∀ x ∈ odd, DSz 4 5000 x) ∧ odd.length = 3 := by rw [h_odd]; exact ⟨by repeat' (first | exact dsz_nil | exact pa | exact pb | exact pc | exact pd | exact pl | exact pn | exact dsz_non | exact dsz_bl | exact dsz_lst (k := 1) (w := 0) dsz_nil (by decide) | exact dsz_int (by decide) (by decide) | exact dsz_str (by decide +kernel) (by decide +kernel) | refine dsz_four ?_ ?_ ?_ ?_ | refine dsz_four' ?_ ?_ ?_ ?_ | refine dsz_cons ?_ ?_ | refine dsz_tup (w := 40) ?_ (by decide)), rfl⟩
    refine qg_set 7 (EvL.ev (el_catX (ev_var (i := 7) rfl) (EvL.ev (el_lst (els_cons (EvX.dat (ev_tp (els_cons (EvX.dat (ev_var (i := 3) rfl)) (els_cons (EvX.dat (ev_non)) (els_cons (EvX.dat (ev_var (i := 5) rfl)) (els_cons (EvX.dat (ev_var (i := 6) rfl)) (els_nil))))) (by simp))) (els_cons (EvX.dat (ev_tp (els_cons (EvX.dat (ev_var (i := 3) rfl)) (els_cons (EvX.dat (ev_str)) (els_cons (EvX.dat (ev_var (i := 5) rfl)) (els_cons (EvX.dat (ev_var (i := 6) rfl)) (els_nil))))) (by simp))) (els_cons (EvX.dat (ev_tp (els_cons (EvX.dat (ev_lenT (ev_4a (ev_var (i := 0) rfl)))) (els_cons (EvX.dat (ev_var (i := 4) rfl)) (els_cons (EvX.dat (ev_var (i := 5) rfl)) (els_cons (EvX.dat (ev_var (i := 6) rfl)) (els_nil))))) (by simp))) (els_nil)))) (by simp))) (by exact le_line (by rw [ho0.2]; simp)))) rfl fun odd1 h_odd1 => ?_
    have ho1 : (∀ x ∈ odd1, DSz 4 5000 x) ∧ odd1.length = 6 := by rw [h_odd1]; exact ⟨dsz_app ho0.1 (by repeat' (first | exact dsz_nil | exact pa | exact pb | exact pc | exact pd | exact pl | exact pn | exact dsz_non | exact dsz_bl | exact dsz_lst (k := 1) (w := 0) dsz_nil (by decide) | exact dsz_int (by decide) (by decide) | exact dsz_str (by decide +kernel) (by decide +kernel) | refine dsz_four ?_ ?_ ?_ ?_ | refine dsz_four' ?_ ?_ ?_ ?_ | refine dsz_cons ?_ ?_ | refine dsz_tup (w := 40) ?_ (by decide))), by rw [List.length_append, ho0.2]; rfl⟩
    refine qg_set 7 (EvL.ev (el_catX (ev_var (i := 7) rfl) (EvL.ev (el_lst (els_cons (EvX.dat (ev_tp (els_cons (EvX.dat (ev_non)) (els_cons (EvX.dat (ev_var (i := 4) rfl)) (els_cons (EvX.dat (ev_var (i := 5) rfl)) (els_cons (EvX.dat (ev_var (i := 6) rfl)) (els_nil))))) (by simp))) (els_cons (EvX.dat (ev_tp (els_cons (EvX.dat (ev_var (i := 3) rfl)) (els_cons (EvX.dat (ev_var (i := 4) rfl)) (els_cons (EvX.dat (ev_tp (els_cons (EvX.dat (ev_bl)) (els_nil)) (by simp))) (els_cons (EvX.dat (ev_var (i := 6) rfl)) (els_nil))))) (by simp))) (els_cons (EvX.dat (ev_tp (els_cons (EvX.dat (ev_var (i := 3) rfl)) (els_cons (EvX.dat (ev_var (i := 4) rfl)) (els_cons (EvX.dat (ev_tp (els_cons (EvX.dat (ev_neg (ev_int))) (els_nil)) (by simp))) (els_cons (EvX.dat (ev_var (i := 6) rfl)) (els_nil))))) (by simp))) (els_nil)))) (by simp))) (by exact le_line (by rw [ho1.2]; simp)))) rfl fun odd2 h_odd2 => ?_
    have ho2 : (∀ x ∈ odd2, DSz 4 5000 x) ∧ odd2.length = 9 := by rw [h_odd2]; exact ⟨dsz_app ho1.1 (by repeat' (first | exact dsz_nil | exact pa | exact pb | exact pc | exact pd | exact pl | exact pn | exact dsz_non | exact dsz_bl | exact dsz_lst (k := 1) (w := 0) dsz_nil (by decide) | exact dsz_int (by decide) (by decide) | exact dsz_str (by decide +kernel) (by decide +kernel) | refine dsz_four ?_ ?_ ?_ ?_ | refine dsz_four' ?_ ?_ ?_ ?_ | refine dsz_cons ?_ ?_ | refine dsz_tup (w := 40) ?_ (by decide))), by rw [List.length_append, ho1.2]; rfl⟩
    refine qg_set 7 (EvL.ev (el_catX (ev_var (i := 7) rfl) (EvL.ev (el_lst (els_cons (EvX.dat (ev_tp (els_cons (EvX.dat (ev_var (i := 3) rfl)) (els_cons (EvX.dat (ev_var (i := 4) rfl)) (els_cons (EvX.dat (ev_tp (els_cons (EvX.dat (ev_non)) (els_cons (EvX.dat (ev_int)) (els_nil))) (by simp))) (els_cons (EvX.dat (ev_var (i := 6) rfl)) (els_nil))))) (by simp))) (els_cons (EvX.dat (ev_tp (els_cons (EvX.dat (ev_var (i := 3) rfl)) (els_cons (EvX.dat (ev_var (i := 4) rfl)) (els_cons (EvX.dat (ev_var (i := 5) rfl)) (els_cons (EvX.dat (ev_tp (els_cons (EvX.dat (ev_str)) (els_cons (EvX.dat (ev_int)) (els_nil))) (by simp))) (els_nil))))) (by simp))) (els_cons (EvX.dat (ev_tp (els_cons (EvX.dat (ev_var (i := 3) rfl)) (els_cons (EvX.dat (ev_var (i := 4) rfl)) (els_cons (EvX.dat (ev_tp (els_cons (EvX.dat (EvL.ev (el_lst (els_nil (α := Int)) (by simp)))) (els_nil)) (by simp))) (els_cons (EvX.dat (ev_var (i := 6) rfl)) (els_nil))))) (by simp))) (els_nil)))) (by simp))) (by exact le_line (by rw [ho2.2]; simp)))) rfl fun odd3 h_odd3 => ?_
    have ho3 : (∀ x ∈ odd3, DSz 4 5000 x) ∧ odd3.length = 12 := by rw [h_odd3]; exact ⟨dsz_app ho2.1 (by repeat' (first | exact dsz_nil | exact pa | exact pb | exact pc | exact pd | exact pl | exact pn | exact dsz_non | exact dsz_bl | exact dsz_lst (k := 1) (w := 0) dsz_nil (by decide) | exact dsz_int (by decide) (by decide) | exact dsz_str (by decide +kernel) (by decide +kernel) | refine dsz_four ?_ ?_ ?_ ?_ | refine dsz_four' ?_ ?_ ?_ ?_ | refine dsz_cons ?_ ?_ | refine dsz_tup (w := 40) ?_ (by decide))), by rw [List.length_append, ho2.2]; rfl⟩
    refine qg_set 7 (EvL.ev (el_catX (ev_var (i := 7) rfl) (EvL.ev (el_lst (els_cons (EvX.dat (ev_tp (els_cons (EvX.dat (ev_var (i := 3) rfl)) (els_cons (EvX.dat (ev_var (i := 4) rfl)) (els_cons (EvX.dat (ev_var (i := 5) rfl)) (els_cons (EvX.dat (EvL.ev (el_listT (ev_var (i := 6) rfl)))) (els_nil))))) (by simp))) (els_cons (EvX.dat (ev_tp (els_cons (EvX.dat (ev_var (i := 3) rfl)) (els_cons (EvX.dat (ev_var (i := 4) rfl)) (els_cons (EvX.dat (ev_non)) (els_cons (EvX.dat (ev_var (i := 6) rfl)) (els_nil))))) (by simp))) (els_cons (EvX.dat (ev_tp (els_cons (EvX.dat (ev_var (i := 3) rfl)) (els_cons (EvX.dat (ev_var (i := 4) rfl)) (els_cons (EvX.dat (ev_var (i := 5) rfl)) (els_cons (EvX.dat (ev_non)) (els_nil))))) (by simp))) (els_nil)))) (by simp))) (by exact le_line (by rw [ho3.2]; simp)))) rfl fun odd4 h_odd4 => ?_
    have ho4 : (∀ x ∈ odd4, DSz 4 5000 x) ∧ odd4.length = 15 := by rw [h_odd4]; exact ⟨dsz_app ho3.1 (by repeat' (first | exact dsz_nil | exact pa | exact pb | exact pc | exact pd | exact pl | exact pn | exact dsz_non | exact dsz_bl | exact dsz_lst (k := 1) (w := 0) dsz_nil (by decide) | exact dsz_int (by decide) (by decide) | exact dsz_str (by decide +kernel) (by decide +kernel) | refine dsz_four ?_ ?_ ?_ ?_ | refine dsz_four' ?_ ?_ ?_ ?_ | refine dsz_cons ?_ ?_ | refine dsz_tup (w := 40) ?_ (by decide))), by rw [List.length_append, ho3.2]; rfl⟩
    exact q_ret (ev_ix (ev_var (i := 7) rfl) (ev_iC (ev_ix (ev_var (i := 2) rfl) (ev_int) (by first | exact ⟨by decide, by omega⟩ | (have h9 := ho4.2; rw [h9]; exact modB (by decide)))) (ev_int) (by first | decide | omega)) (by first | exact ⟨by decide, by omega⟩ | (have h9 := ho4.2; rw [h9]; exact modB (by decide)))) (hret _ _ (by exact dsz_ix ho4.1))
  ·
    refine q_next ?_
    refine q_if (et_test (ev_eq (ev_iC (ev_ix (ev_var (i := 2) rfl) (ev_int) (by first | exact ⟨by decide, by omega⟩ | (have h9 := ho4.2; rw [h9]; exact modB (by decide)))) (ev_int) (by first | decide | omega)) (ev_int))) (fun hb1 => ?_) (fun hb1 => ?_)
    ·
      exact q_ret (EvX.dat (ev_tp (els_cons (EvX.dat (ev_var (i := 3) rfl)) (els_cons (EvX.dat (ev_var (i := 4) rfl)) (els_cons (EvX.dat (ev_revT (ev_var (i := 5) rfl))) (els_cons (EvX.dat (ev_var (i := 6) rfl)) (els_nil))))) (by simp))) (hret _ _ (by refine dsz_four pa pb ?_ pd; rw [h_first]; exact (dsz_ints (fun x hx => by have := hpo.c.1 x (List.mem_reverse.mp hx); omega) (by have := hpo.c.2; rw [List.length_reverse]; omega)).1))
    ·
      refine q_next ?_
      refine q_if (et_test (ev_eq (ev_iC (ev_ix (ev_var (i := 2) rfl) (ev_int) (by first | exact ⟨by decide, by omega⟩ | (have h9 := ho4.2; rw [h9]; exact modB (by decide)))) (ev_int) (by first | decide | omega)) (ev_int))) (fun hb2 => ?_) (fun hb2 => ?_)
      ·
        exact q_ret (EvX.dat (ev_tp (els_cons (EvX.dat (ev_eq (ev_var (i := 3) rfl) (ev_int))) (els_cons (EvX.dat (ev_var (i := 4) rfl)) (els_cons (EvX.dat (ev_var (i := 5) rfl)) (els_cons (EvX.dat (ev_var (i := 6) rfl)) (els_nil))))) (by simp))) (hret _ _ (by repeat' (first | exact dsz_nil | exact pa | exact pb | exact pc | exact pd | exact pl | exact pn | exact dsz_non | exact dsz_bl | exact dsz_lst (k := 1) (w := 0) dsz_nil (by decide) | exact dsz_int (by decide) (by decide) | exact dsz_str (by decide +kernel) (by decide +kernel) | refine dsz_four ?_ ?_ ?_ ?_ | refine dsz_four' ?_ ?_ ?_ ?_ | refine dsz_cons ?_ ?_ | refine dsz_tup (w := 40) ?_ (by decide))))
      ·
        refine q_next ?_
        refine q_if (et_test (ev_eq (ev_iC (ev_ix (ev_var (i := 2) rfl) (ev_int) (by first | exact ⟨by decide, by omega⟩ | (have h9 := ho4.2; rw [h9]; exact modB (by decide)))) (ev_int) (by first | decide | omega)) (ev_int))) (fun hb3 => ?_) (fun hb3 => ?_)
        ·
          exact q_ret (EvX.dat (EvL.ev (el_lst (els_cons (EvX.dat (ev_var (i := 3) rfl)) (els_cons (EvX.dat (ev_var (i := 4) rfl)) (els_cons (EvX.dat (ev_var (i := 5) rfl)) (els_cons (EvX.dat (ev_var (i := 6) rfl)) (els_nil))))) (by simp)))) (hret _ _ (by repeat' (first | exact dsz_nil | exact pa | exact pb | exact pc | exact pd | exact pl | exact pn | exact dsz_non | exact dsz_bl | exact dsz_lst (k := 1) (w := 0) dsz_nil (by decide) | exact dsz_int (by decide) (by decide) | exact dsz_str (by decide +kernel) (by decide +kernel) | refine dsz_four ?_ ?_ ?_ ?_ | refine dsz_four' ?_ ?_ ?_ ?_ | refine dsz_cons ?_ ?_ | refine dsz_tup (w := 40) ?_ (by decide))))
        ·
          refine q_next ?_
          refine q_if (et_test (ev_eq (ev_iC (ev_ix (ev_var (i := 2) rfl) (ev_int) (by first | exact ⟨by decide, by omega⟩ | (have h9 := ho4.2; rw [h9]; exact modB (by decide)))) (ev_int) (by first | decide | omega)) (ev_int))) (fun hb4 => ?_) (fun hb4 => ?_)
          ·
            exact q_ret (EvX.dat (ev_tp (els_cons (EvX.dat (ev_var (i := 3) rfl)) (els_cons (EvX.dat (ev_iC (ev_ix (ev_var (i := 2) rfl) (ev_int) (by first | exact ⟨by decide, by omega⟩ | (have h9 := ho4.2; rw [h9]; exact modB (by decide)))) (ev_i0 (ev_lenT (ev_4b (ev_var (i := 0) rfl))) (ev_int)) (by first | decide | omega))) (els_cons (EvX.dat (ev_var (i := 5) rfl)) (els_cons (EvX.dat (ev_var (i := 6) rfl)) (els_nil))))) (by simp))) (hret _ _ (by refine dsz_four pa ?_ pc pd; exact dsz_int (by have := modB (a := ix some 4) (m := (book.b.l.length : Int) + 1) (by omega); omega) (by decide)))
          ·
            refine q_next ?_
            refine q_if (et_test (ev_eq (ev_iC (ev_ix (ev_var (i := 2) rfl) (ev_int) (by first | exact ⟨by decide, by omega⟩ | (have h9 := ho4.2; rw [h9]; exact modB (by decide)))) (ev_int) (by first | decide | omega)) (ev_int))) (fun hb5 => ?_) (fun hb5 => ?_)
            ·
              exact q_ret (EvX.dat (ev_tp (els_cons (EvX.dat (ev_var (i := 3) rfl)) (els_cons (EvX.dat (ev_var (i := 4) rfl)) (els_cons (EvX.dat (ev_var (i := 5) rfl)) (els_cons (EvX.dat (ev_catT (EvX.tpD (ev_var (i := 6) rfl)) (ev_tp (els_cons (EvX.dat (ev_iC (ev_ix (ev_var (i := 2) rfl) (ev_int) (by first | exact ⟨by decide, by omega⟩ | (have h9 := ho4.2; rw [h9]; exact modB (by decide)))) (ev_i0 (ev_4c (ev_var (i := 0) rfl)) (ev_int)) (by first | decide | omega))) (els_nil)) (by simp)) (by exact le_line (by rw [h_second]; have := hpo.d.2; simp; omega)))) (els_nil))))) (by simp))) (hret _ _ (by refine dsz_four pa pb pc ?_; rw [h_second]; show DSz 3 1100 (.tup ((List.map Dat.int state.d.l ++ [Dat.int (ix some 4 % (book.c + 1))]).map (ToD.dat : Dat → Dat))); rw [show ((List.map Dat.int state.d.l ++ [Dat.int (ix some 4 % (book.c + 1))]).map (ToD.dat : Dat → Dat)) = (state.d.l ++ [ix some 4 % (book.c + 1)]).map Dat.int from by rw [List.map_append, List.map_append, List.map_map]; rfl]; refine (dsz_ints (k := 2) (l := state.d.l ++ [ix some 4 % (book.c + 1)]) (fun x hx => ?_) (by have := hpo.d.2; rw [List.length_append, List.length_singleton]; omega)).1; rcases List.mem_append.mp hx with q | q; (have := hpo.d.1 x q; omega); rw [List.mem_singleton.mp q]; have := modB (a := ix some 4) (m := book.c + 1) (by omega); omega))
            ·
              refine q_next ?_
              exact q_ret (EvX.dat (ev_tp (els_cons (EvX.dat (ev_iC (ev_ix (ev_var (i := 2) rfl) (ev_int) (by first | exact ⟨by decide, by omega⟩ | (have h9 := ho4.2; rw [h9]; exact modB (by decide)))) (ev_lenT (ev_4a (ev_var (i := 0) rfl))) (by first | decide | omega))) (els_cons (EvX.dat (ev_var (i := 4) rfl)) (els_cons (EvX.dat (ev_var (i := 5) rfl)) (els_cons (EvX.dat (ev_var (i := 6) rfl)) (els_nil))))) (by simp))) (hret _ _ (by refine dsz_four ?_ pb pc pd; exact dsz_int (by have := modB (a := ix some 4) (m := (book.a.l.length : Int)) (by omega); omega) (by decide)))
end
theorem sc__law_bent : FnScope ["book", "thing", "some", "word", "things", "at", "way", "other", "wrong", "after"] ["book", "thing", "some"] (defScope s__law_bent) := ⟨rfl, rfl, rfl, by decide +kernel, rfl, by decide +kernel, by decide +kernel⟩
section
variable {P : Program} {w : World} {K : Fg} {mg : Str → Option Value} {base : Heap}
set_option maxHeartbeats 4000000 in
theorem ok__law_bent {Y : XC → Addr} (T : Tx K mg Y) (c__law_bent_state : Cal P w K mg base 1 "_law_bent_state" ["book", "state", "some"] (spQ K (fun (a : (T4 (Tp Bool) (Tp Bool) Int (Tp (T5 Int Int (Option Int) Int (Option Int)))) × (T4 Int Int (Tp Int) (Tp Int)) × (List Int) × Unit) (y : Dat) => DSz 4 5000 y) (fun a => BookOk a.1 ∧ StOk a.1 a.2.1 ∧ 5 ≤ a.2.2.1.length))) : Cal P w K mg base 2 "_law_bent" ["book", "thing", "some"] (spQ K (fun (a : (T4 (Tp Bool) (Tp Bool) Int (Tp (T5 Int Int (Option Int) Int (Option Int)))) × Dat × (List Int) × Unit) (y : Dat) => BentOk y) (fun a => BookOk a.1 ∧ TwT a.1 a.2.1 ∧ 5 ≤ a.2.2.1.length)) := by
  have nd := sc__law_bent.nd
  refine def_spQ (k := 1) T.d__law_bent sc__law_bent rfl fun fa cdv A outer s H E hr => ?_
  refine ⟨_, pss_cons (ps_asg (pv 1) (pg_tup rfl (pgs_cons (pg_name (i := 3) nd rfl (.inl rfl)) (pgs_cons (pg_name (i := 4) nd rfl (.inl rfl)) (pgs_nil)))))
      (pss_cons (ps_set (i := 5) nd rfl (.inl rfl) (pe_op op_mod (pe_ix (r := rIxL K) ix_list (pv 2) (pe_int) (fun _ _ => rfl)) (pe_op op_add (pe_callB call_lenG (by rfl) T.n_len (by decide +kernel) (pa_cons (pv 4) pa_nil)) (pe_int))))
      (pss_cons (ps_set (i := 6) nd rfl (.inl rfl) (pe_op op_mod (pe_ix (r := rIxL K) ix_list (pv 2) (pe_int) (fun _ _ => rfl)) (pe_int)))
      (pss_cons (ps_if (pt_cmpR op_eq (pv 6) (pe_int) (nomark _)) (pss_cons (ps_ret (pe_tup (pa_cons (pv 3) (pa_cons (pe_op op_cat (pe_slice sl_list (pv 4) po_none (po_some (pv 5))) (pe_slice sl_list (pv 4) (po_some (pe_op op_add (pv 5) (pe_int))) po_none)) pa_nil))))
      (pss_nil)) (pss_nil))
      (pss_cons (ps_if (pt_cmpR op_eq (pv 6) (pe_int) (nomark _)) (pss_cons (ps_ret (pe_tup (pa_cons (pv 3) (pa_cons (pe_op op_cat (pv 4) (pe_slice sl_list (pv 4) po_none (po_some (pe_int)))) pa_nil))))
      (pss_nil)) (pss_nil))
      (pss_cons (ps_if (pt_cmpR op_eq (pv 6) (pe_int) (nomark _)) (pss_cons (ps_ret (pe_tup (pa_cons (pe_ix (r := rIxL K) ix_list (pe_lst (pa_cons (pe_str) (pa_cons (pe_str) (pa_cons (pe_str) (pa_cons (pe_str) (pa_cons (pe_non) (pa_cons (pe_int) (pa_cons (pe_lst (pa_cons (pe_str) pa_nil)) pa_nil)))))))) (pe_op op_mod (pe_op op_add (pe_callTy call_intG (by rfl) T.n_int (by decide +kernel) (pa_cons (pe_cmpR (r := rEqD K) (op_eqD hr.units) (pv 3) (pe_str) (nomark _)) pa_nil)) (pe_op op_mod (pe_ix (r := rIxL K) ix_list (pv 2) (pe_int) (fun _ _ => rfl)) (pe_int))) (pe_int)) (fun _ _ => rfl)) (pa_cons (pv 4) pa_nil))))
      (pss_nil)) (pss_nil))
      (pss_cons (ps_if (pt_cmpR op_eq (pv 6) (pe_int) (nomark _)) (pss_cons (ps_set (i := 7) nd rfl (.inl rfl) (pe_ix (r := rIxL K) ix_list (pe_lst (pa_cons (pe_non) (pa_cons (pe_int) (pa_cons (pe_tup (pa_nil)) (pa_cons (pe_str) (pa_cons (pe_bl) (pa_cons (pe_tup (pa_cons (pe_tup (pa_cons (pe_int) (pa_cons (pe_int) (pa_cons (pe_tup (pa_nil)) (pa_cons (pe_tup (pa_nil)) pa_nil))))) pa_nil)) pa_nil))))))) (pe_op op_mod (pe_ix (r := rIxL K) ix_list (pv 2) (pe_int) (fun _ _ => rfl)) (pe_int)) (fun _ _ => rfl)))
      (pss_cons (ps_set (i := 8) nd rfl (.inl rfl) (pe_lst (pa_cons (pe_lst (pa_cons (pv 3) (pa_cons (pv 4) pa_nil))) (pa_cons (pe_tup (pa_cons (pv 3) (pa_cons (pv 4) (pa_cons (pe_int) pa_nil)))) (pa_cons (pe_tup (pa_cons (pv 3) (pa_cons (pe_callTy call_tupG (by rfl) T.n_tuple (by decide +kernel) (pa_cons (pv 4) pa_nil)) pa_nil))) (pa_cons (pe_non) (pa_cons (pv 3) (pa_cons (pe_tup (pa_cons (pv 3) pa_nil)) (pa_cons (pe_tup (pa_cons (pv 3) (pa_cons (pv 7) pa_nil))) pa_nil)))))))))
      (pss_cons (ps_ret (pe_ix (r := rIxL K) ix_list (pv 8) (pe_op op_mod (pe_ix (r := rIxL K) ix_list (pv 2) (pe_int) (fun _ _ => rfl)) (pe_int)) (fun _ _ => rfl)))
      (pss_nil)))) (pss_nil))
      (pss_cons (ps_if (pt_cmpR op_eq (pv 6) (pe_int) (nomark _)) (pss_cons (ps_ret (pe_tup (pa_cons (pv 3) (pa_cons (pe_lstRev rfl (by rfl) T.n_list (by rfl) T.n_reversed (pv 4)) pa_nil))))
      (pss_nil)) (pss_nil))
      (pss_cons (ps_if (PW.pt (pw_or (pt_cmpR op_eq (pv 6) (pe_int) (nomark _)) (pw_or1 (pt_cmpR op_eq (pv 5) (pe_callB call_lenG (by rfl) T.n_len (by decide +kernel) (pa_cons (pv 4) pa_nil)) (nomark _))))) (pss_cons (ps_set (i := 7) nd rfl (.inl rfl) (pe_ix (r := rIxL K) ix_list (pe_lst (pa_cons (pe_int) (pa_cons (pe_callB call_lenG (by rfl) T.n_len (by decide +kernel) (pa_cons (pe_ix (r := rIxT K) ix_tup (pv 0) pe_int (fun _ _ => rfl)) pa_nil)) (pa_cons (pe_bl) (pa_cons (pe_non) (pa_cons (pe_tup (pa_cons (pe_int) (pa_cons (pe_int) (pa_cons (pe_tup (pa_nil)) (pa_cons (pe_tup (pa_nil)) pa_nil))))) (pa_cons (pe_tup (pa_cons (pe_int) (pa_cons (pe_int) (pa_cons (pe_tup (pa_nil)) (pa_cons (pe_tup (pa_nil)) pa_nil))))) pa_nil))))))) (pe_op op_mod (pe_ix (r := rIxL K) ix_list (pv 2) (pe_int) (fun _ _ => rfl)) (pe_int)) (fun _ _ => rfl)))
      (pss_cons (ps_ret (pe_tup (pa_cons (pv 3) (pa_cons (pe_op op_cat (pv 4) (pe_lst (pa_cons (pv 7) pa_nil))) pa_nil))))
      (pss_nil))) (pss_nil))
      (pss_cons (ps_if (pt_val (pe_callB (r := rIsi K) call_isi (by rfl) T.n_isinstance (by decide +kernel) (pa_cons (pe_ix (r := rIxL K) ix_list (pv 4) (pv 5) (fun _ _ => rfl)) (pa_cons (pe_bltn (v := .ty "tuple") (by rfl) T.n_tuple (by decide +kernel) rfl) pa_nil)))) (pss_cons (ps_set (i := 7) nd rfl (.inl rfl) (pe_cal c__law_bent_state hr (by decide) (by rfl) (pa_cons (pv 0) (pa_cons (pe_ix (r := rIxL K) ix_list (pv 4) (pv 5) (fun _ _ => rfl)) (pa_cons (pv 2) pa_nil)))))
      (pss_cons (ps_ret (pe_tup (pa_cons (pv 3) (pa_cons (pe_op op_cat (pe_op op_cat (pe_slice sl_list (pv 4) po_none (po_some (pv 5))) (pe_lst (pa_cons (pv 7) pa_nil))) (pe_slice sl_list (pv 4) (po_some (pe_op op_add (pv 5) (pe_int))) po_none)) pa_nil))))
      (pss_nil))) (pss_nil))
      (pss_cons (ps_set (i := 9) nd rfl (.inl rfl) (pe_slice sl_list (pv 4) (po_some (pe_op op_add (pv 5) (pe_int))) po_none))
      (pss_cons (ps_ret (pe_tup (pa_cons (pv 3) (pa_cons (pe_op op_cat (pe_op op_cat (pe_op op_cat (pe_slice sl_list (pv 4) po_none (po_some (pv 5))) (pe_slice sl_list (pv 9) po_none (po_some (pe_int)))) (pe_lst (pa_cons (pe_ix (r := rIxL K) ix_list (pv 4) (pv 5) (fun _ _ => rfl)) pa_nil))) (pe_slice sl_list (pv 9) (po_some (pe_int)) po_none)) pa_nil))))
      (pss_nil)))))))))))), ?_⟩
  rintro ⟨book, thing, some, _⟩ hpre B S0 Q hret
  show At _ _ _ _ [.im book, .im thing, .im some, .no, .no, .no, .no, .no, .no, .no]
  obtain ⟨hbk, htw, hsl⟩ := hpre
  dsimp only at hbk htw hsl
  have htp := htw.parts hbk
  refine qg_pair 3 4 (EvX.asT2 (ev_var (i := 1) rfl) (by exact htw.two)) rfl rfl fun word things h_word h_things => ?_
  refine qg_set 5 (ev_iC (ev_ix (ev_var (i := 2) rfl) (ev_int) (by first | exact ⟨by decide, by omega⟩ | exact modB (by decide))) (ev_i0 (ev_len (EvX.c (EvX.asL (ev_var (i := 4) rfl) (by first | exact htp.l | (rw [h_things]; exact htp.l))))) (ev_int)) (by first | decide | (show (0 : Int) < _; omega))) rfl fun at_ h_at_ => ?_
  replace htp : TwP book word things := by rw [h_word, h_things]; exact htp
  have ha0 : 0 ≤ at_ ∧ at_ ≤ ((things.items.length : Nat) : Int) := by rw [h_at_]; have := modB (a := ix some 1) (m := ((things.items.length : Nat) : Int) + 1) (by omega); omega
  have hlz := htp.z.le
  refine qg_set 6 (ev_iC (ev_ix (ev_var (i := 2) rfl) (ev_int) (by first | exact ⟨by decide, by omega⟩ | exact modB (by decide))) (ev_int) (by first | decide | (show (0 : Int) < _; omega))) rfl fun way h_way => ?_
  show At _ _ _ _ [.im book, .im thing, .im some, .im word, .im things, .im at_, .im way, .no, .no, .no]
  refine q_if (et_test (ev_eq (ev_var (i := 6) rfl) (ev_int))) (fun hb0 => ?_) (fun hb0 => ?_)
  ·
    exact q_ret (EvX.dat (ev_tp (els_cons (ev_var (i := 3) rfl) (els_cons (EvX.dat (EvL.ev (el_catX (EvL.ev (el_slice (EvX.c (EvX.asL (ev_var (i := 4) rfl) (by first | exact htp.l | (rw [h_things]; exact htp.l)))) eo_none (eo_some (ev_var (i := 5) rfl)))) (EvL.ev (el_slice (EvX.c (EvX.asL (ev_var (i := 4) rfl) (by first | exact htp.l | (rw [h_things]; exact htp.l)))) (eo_some (ev_i0 (ev_var (i := 5) rfl) (ev_int))) eo_none)) (by first | exact Lsz.cat (htp.z.to ha0.1) (htp.z.from (by omega)) (by omega) | exact Lsz.cat htp.z (htp.z.to (by decide)) (by decide) | exact Lsz.cat htp.z (.one hoth) (by decide) | exact Lsz.cat (htp.z.to ha0.1) (.one (hR_w.up (by decide) (Nat.le_refl _))) (by omega) | exact Lsz.cat ((htp.z.to ha0.1).app (.one (hR_w.up (by decide) (Nat.le_refl _)))) (htp.z.from (by omega)) (by omega) | exact Lsz.cat (htp.z.to ha0.1) (haf.to (by decide)) (by omega) | exact Lsz.cat ((htp.z.to ha0.1).app (haf.to (by decide))) (.one (htp.z.z _ (ix_mem ha0.1 (by simp at hb5; omega)))) (by omega) | exact Lsz.cat (((htp.z.to ha0.1).app (haf.to (by decide))).app (.one (htp.z.z _ (ix_mem ha0.1 (by simp at hb5; omega))))) (haf.from (by decide)) (by omega))))) (els_nil))) (by simp))) (hret _ _ (by exact ((htp.z.to ha0.1).app (htp.z.from (by omega))).bent htp.wd (by omega)))
  ·
    refine q_next ?_
    refine q_if (et_test (ev_eq (ev_var (i := 6) rfl) (ev_int))) (fun hb1 => ?_) (fun hb1 => ?_)
    ·
      exact q_ret (EvX.dat (ev_tp (els_cons (ev_var (i := 3) rfl) (els_cons (EvX.dat (EvL.ev (el_catX (EvX.asL (ev_var (i := 4) rfl) (by first | exact htp.l | (rw [h_things]; exact htp.l))) (EvL.ev (el_slice (EvX.c (EvX.asL (ev_var (i := 4) rfl) (by first | exact htp.l | (rw [h_things]; exact htp.l)))) eo_none (eo_some (ev_int)))) (by first | exact Lsz.cat (htp.z.to ha0.1) (htp.z.from (by omega)) (by omega) | exact Lsz.cat htp.z (htp.z.to (by decide)) (by decide) | exact Lsz.cat htp.z (.one hoth) (by decide) | exact Lsz.cat (htp.z.to ha0.1) (.one (hR_w.up (by decide) (Nat.le_refl _))) (by omega) | exact Lsz.cat ((htp.z.to ha0.1).app (.one (hR_w.up (by decide) (Nat.le_refl _)))) (htp.z.from (by omega)) (by omega) | exact Lsz.cat (htp.z.to ha0.1) (haf.to (by decide)) (by omega) | exact Lsz.cat ((htp.z.to ha0.1).app (haf.to (by decide))) (.one (htp.z.z _ (ix_mem ha0.1 (by simp at hb5; omega)))) (by omega) | exact Lsz.cat (((htp.z.to ha0.1).app (haf.to (by decide))).app (.one (htp.z.z _ (ix_mem ha0.1 (by simp at hb5; omega))))) (haf.from (by decide)) (by omega))))) (els_nil))) (by simp))) (hret _ _ (by exact (htp.z.app (htp.z.to (by decide))).bent htp.wd (by decide)))
    ·
      refine q_next ?_
      refine q_if (et_test (ev_eq (ev_var (i := 6) rfl) (ev_int))) (fun hb2 => ?_) (fun hb2 => ?_)
      ·
        exact q_ret (EvX.dat (ev_tp (els_cons (ev_ix (EvL.ev (el_lst (els_cons (EvX.dat (ev_str)) (els_cons (EvX.dat (ev_str)) (els_cons (EvX.dat (ev_str)) (els_cons (EvX.dat (ev_str)) (els_cons (EvX.dat (ev_non)) (els_cons (EvX.dat (ev_int)) (els_cons (EvX.dat (EvL.ev (el_lst (els_cons (ev_str) (els_nil)) (by simp)))) (els_nil)))))))) (by simp))) (ev_iC (ev_i0 (ev_intB (ev_eqDS (ev_var (i := 3) rfl) (by exact htp.wsh) (by decide +kernel))) (ev_iC (ev_ix (ev_var (i := 2) rfl) (ev_int) (by first | exact ⟨by decide, by omega⟩ | exact modB (by decide))) (ev_int) (by first | decide | (show (0 : Int) < _; omega)))) (ev_int) (by first | decide | (show (0 : Int) < _; omega))) (by first | exact ⟨by decide, by omega⟩ | exact modB (by decide))) (els_cons (ev_var (i := 4) rfl) (els_nil))) (by simp))) (hret _ _ (by rw [dat_tup]; exact (Thg.two (dsz_ix (by repeat' (first | exact dsz_nil | exact dsz_non | exact dsz_bl | exact dsz_int (by decide) (by decide) | exact dsz_int (by have := hbk.many; omega) (by decide) | exact dsz_str (by decide +kernel) (by decide +kernel) | refine dsz_cons ?_ ?_ | refine dsz_lst (w := 40) ?_ (Nat.le_of_ble_eq_true rfl) | refine dsz_tup (w := 800) ?_ (Nat.le_of_ble_eq_true rfl) | refine dsz_tup (w := 180) ?_ (Nat.le_of_ble_eq_true rfl)))) htp.th).1))
      ·
        refine q_next ?_
        refine q_if (et_test (ev_eq (ev_var (i := 6) rfl) (ev_int))) (fun hb3 => ?_) (fun hb3 => ?_)
        ·
          refine qg_set 7 (ev_ix (EvL.ev (el_lst (els_cons (EvX.dat (ev_non)) (els_cons (EvX.dat (ev_int)) (els_cons (EvX.dat (ev_tp (els_nil (α := Int)) (by simp))) (els_cons (EvX.dat (ev_str)) (els_cons (EvX.dat (ev_bl)) (els_cons (EvX.dat (ev_tp (els_cons (ev_tp (els_cons (EvX.dat (ev_int)) (els_cons (EvX.dat (ev_int)) (els_cons (EvX.dat (ev_tp (els_nil (α := Dat)) (by simp))) (els_cons (EvX.dat (ev_tp (els_nil (α := Dat)) (by simp))) (els_nil))))) (by simp)) els_nil) (by simp))) (els_nil))))))) (by simp))) (ev_iC (ev_ix (ev_var (i := 2) rfl) (ev_int) (by first | exact ⟨by decide, by omega⟩ | exact modB (by decide))) (ev_int) (by first | decide | (show (0 : Int) < _; omega))) (by first | exact ⟨by decide, by omega⟩ | exact modB (by decide))) rfl fun other h_other => ?_
          have hoth : DSz 6 900 other := by rw [h_other]; refine dsz_ix ?_; repeat' (first | exact dsz_nil | exact dsz_non | exact dsz_bl | exact dsz_int (by decide) (by decide) | exact dsz_int (by have := hbk.many; omega) (by decide) | exact dsz_str (by decide +kernel) (by decide +kernel) | refine dsz_cons ?_ ?_ | refine dsz_lst (w := 40) ?_ (Nat.le_of_ble_eq_true rfl) | refine dsz_tup (w := 800) ?_ (Nat.le_of_ble_eq_true rfl) | refine dsz_tup (w := 180) ?_ (Nat.le_of_ble_eq_true rfl))
          refine qg_set 8 (EvL.ev (el_lst (els_cons (EvX.dat (EvL.ev (el_lst (els_cons (ev_var (i := 3) rfl) (els_cons (ev_var (i := 4) rfl) (els_nil))) (by simp)))) (els_cons (EvX.dat (ev_t3 (ev_var (i := 3) rfl) (ev_var (i := 4) rfl) (ev_int))) (els_cons (EvX.dat (ev_pair (ev_var (i := 3) rfl) (ev_tup (EvX.c (EvX.asL (ev_var (i := 4) rfl) (by first | exact htp.l | (rw [h_things]; exact htp.l))))))) (els_cons (EvX.dat (ev_non)) (els_cons (ev_var (i := 3) rfl) (els_cons (EvX.dat (ev_tp (els_cons (ev_var (i := 3) rfl) els_nil) (by simp))) (els_cons (EvX.dat (ev_pair (ev_var (i := 3) rfl) (ev_var (i := 7) rfl))) (els_nil)))))))) (by simp))) rfl fun wrong h_wrong => ?_
          have hwr : ∀ y ∈ wrong, BentOk y := by
            rw [h_wrong]
            refine bent_cons (by rw [dat_lst]; exact (Thg.two htp.wd htp.th).2) (bent_cons (Thg.three htp.wd htp.th (dsz_int (i := 0) (by decide) (by decide))) (bent_cons (Thg.two htp.wd (Thg.tup (by omega) htp.z.z)).1 (bent_cons (bent_small dsz_non) (bent_cons (bent_small htp.wd) (bent_cons (by rw [dat_tup]; exact Thg.one htp.wd) (bent_cons (Thg.two htp.wd (.small hoth)).1 bent_nil))))))
          have hwl : wrong.length = 7 := by rw [h_wrong]; rfl
          exact q_ret (ev_ix (ev_var (i := 8) rfl) (ev_iC (ev_ix (ev_var (i := 2) rfl) (ev_int) (by first | exact ⟨by decide, by omega⟩ | exact modB (by decide))) (ev_int) (by first | decide | (show (0 : Int) < _; omega))) (by rw [hwl]; exact modB (by decide))) (hret _ _ (by exact bent_ix hwr))
        ·
          refine q_next ?_
          refine q_if (et_test (ev_eq (ev_var (i := 6) rfl) (ev_int))) (fun hb4 => ?_) (fun hb4 => ?_)
          ·
            exact q_ret (EvX.dat (ev_tp (els_cons (ev_var (i := 3) rfl) (els_cons (EvX.dat (EvL.ev (el_listRev (EvX.c (EvX.asL (ev_var (i := 4) rfl) (by first | exact htp.l | (rw [h_things]; exact htp.l))))))) (els_nil))) (by simp))) (hret _ _ (by exact (lsz_rev htp.z).bent htp.wd (by decide)))
          ·
            refine q_next ?_
            refine q_if (et_or (et_test (ev_eq (ev_var (i := 6) rfl) (ev_int))) (fun hc => et_test (ev_eq (ev_var (i := 5) rfl) (ev_len (EvX.c (EvX.asL (ev_var (i := 4) rfl) (by first | exact htp.l | (rw [h_things]; exact htp.l)))))))) (fun hb5 => ?_) (fun hb5 => ?_)
            ·
              refine qg_set 7 (ev_ix (EvL.ev (el_lst (els_cons (EvX.dat (ev_int)) (els_cons (EvX.dat (ev_lenT (ev_4d (ev_var (i := 0) rfl)))) (els_cons (EvX.dat (ev_bl)) (els_cons (EvX.dat (ev_non)) (els_cons (EvX.dat (ev_tp (els_cons (EvX.dat (ev_int)) (els_cons (EvX.dat (ev_int)) (els_cons (EvX.dat (ev_tp (els_nil (α := Dat)) (by simp))) (els_cons (EvX.dat (ev_tp (els_nil (α := Dat)) (by simp))) (els_nil))))) (by simp))) (els_cons (EvX.dat (ev_tp (els_cons (EvX.dat (ev_int)) (els_cons (EvX.dat (ev_int)) (els_cons (EvX.dat (ev_tp (els_nil (α := Dat)) (by simp))) (els_cons (EvX.dat (ev_tp (els_nil (α := Dat)) (by simp))) (els_nil))))) (by simp))) (els_nil))))))) (by simp))) (ev_iC (ev_ix (ev_var (i := 2) rfl) (ev_int) (by first | exact ⟨by decide, by omega⟩ | exact modB (by decide))) (ev_int) (by first | decide | (show (0 : Int) < _; omega))) (by first | exact ⟨by decide, by omega⟩ | exact modB (by decide))) rfl fun other1 h_other1 => ?_
              have hoth : DSz 5 5000 other1 := by rw [h_other1]; refine dsz_ix ?_; repeat' (first | exact dsz_nil | exact dsz_non | exact dsz_bl | exact dsz_int (by decide) (by decide) | exact dsz_int (by have := hbk.many; omega) (by decide) | exact dsz_str (by decide +kernel) (by decide +kernel) | refine dsz_cons ?_ ?_ | refine dsz_lst (w := 40) ?_ (Nat.le_of_ble_eq_true rfl) | refine dsz_tup (w := 800) ?_ (Nat.le_of_ble_eq_true rfl) | refine dsz_tup (w := 180) ?_ (Nat.le_of_ble_eq_true rfl))
              show At _ _ _ _ [.im book, .im thing, .im some, .im word, .im things, .im at_, .im way, .im other1, .no, .no]
              exact q_ret (EvX.dat (ev_tp (els_cons (ev_var (i := 3) rfl) (els_cons (EvX.dat (EvL.ev (el_catX (EvX.asL (ev_var (i := 4) rfl) (by first | exact htp.l | (rw [h_things]; exact htp.l))) (EvL.ev (el_lst (els_cons (ev_var (i := 7) rfl) (els_nil)) (by simp))) (by first | exact Lsz.cat (htp.z.to ha0.1) (htp.z.from (by omega)) (by omega) | exact Lsz.cat htp.z (htp.z.to (by decide)) (by decide) | exact Lsz.cat htp.z (.one hoth) (by decide) | exact Lsz.cat (htp.z.to ha0.1) (.one (hR_w.up (by decide) (Nat.le_refl _))) (by omega) | exact Lsz.cat ((htp.z.to ha0.1).app (.one (hR_w.up (by decide) (Nat.le_refl _)))) (htp.z.from (by omega)) (by omega) | exact Lsz.cat (htp.z.to ha0.1) (haf.to (by decide)) (by omega) | exact Lsz.cat ((htp.z.to ha0.1).app (haf.to (by decide))) (.one (htp.z.z _ (ix_mem ha0.1 (by simp at hb5; omega)))) (by omega) | exact Lsz.cat (((htp.z.to ha0.1).app (haf.to (by decide))).app (.one (htp.z.z _ (ix_mem ha0.1 (by simp at hb5; omega))))) (haf.from (by decide)) (by omega))))) (els_nil))) (by simp))) (hret _ _ (by exact (htp.z.app (.one hoth)).bent htp.wd (by decide)))
            ·
              refine q_next ?_
              refine q_if (et_B (ev_isTD (ev_ix (EvX.asL (ev_var (i := 4) rfl) (by first | exact htp.l | (rw [h_things]; exact htp.l))) (ev_var (i := 5) rfl) (by exact ⟨ha0.1, by simp at hb5; omega⟩)))) (fun hb6 => ?_) (fun hb6 => ?_)
              ·
                refine q_setW 7 (ew_callQ (ea_cons (ev_var (i := 0) rfl) (ea_cons (EvX.datS (ev_ix (EvX.asL (ev_var (i := 4) rfl) (by first | exact htp.l | (rw [h_things]; exact htp.l))) (ev_var (i := 5) rfl) (by exact ⟨ha0.1, by simp at hb5; omega⟩)) (by exact htp.ex (ix_mem ha0.1 (by simp at hb5; omega)) hb6)) (ea_cons (ev_var (i := 2) rfl) (ea_nil)))) (by exact ⟨hbk, htp.stOk (ix_mem ha0.1 (by simp at hb5; omega)) hb6, hsl⟩)) (fun _ => rfl) fun w hR_w => ?_
                show At _ _ _ _ [.im book, .im thing, .im some, .im word, .im things, .im at_, .im way, .im w, .no, .no]
                exact q_ret (EvX.dat (ev_tp (els_cons (ev_var (i := 3) rfl) (els_cons (EvX.dat (EvL.ev (el_catX (EvL.ev (el_catX (EvL.ev (el_slice (EvX.c (EvX.asL (ev_var (i := 4) rfl) (by first | exact htp.l | (rw [h_things]; exact htp.l)))) eo_none (eo_some (ev_var (i := 5) rfl)))) (EvL.ev (el_lst (els_cons (ev_var (i := 7) rfl) (els_nil)) (by simp))) (by first | exact Lsz.cat (htp.z.to ha0.1) (htp.z.from (by omega)) (by omega) | exact Lsz.cat htp.z (htp.z.to (by decide)) (by decide) | exact Lsz.cat htp.z (.one hoth) (by decide) | exact Lsz.cat (htp.z.to ha0.1) (.one (hR_w.up (by decide) (Nat.le_refl _))) (by omega) | exact Lsz.cat ((htp.z.to ha0.1).app (.one (hR_w.up (by decide) (Nat.le_refl _)))) (htp.z.from (by omega)) (by omega) | exact Lsz.cat (htp.z.to ha0.1) (haf.to (by decide)) (by omega) | exact Lsz.cat ((htp.z.to ha0.1).app (haf.to (by decide))) (.one (htp.z.z _ (ix_mem ha0.1 (by simp at hb5; omega)))) (by omega) | exact Lsz.cat (((htp.z.to ha0.1).app (haf.to (by decide))).app (.one (htp.z.z _ (ix_mem ha0.1 (by simp at hb5; omega))))) (haf.from (by decide)) (by omega)))) (EvL.ev (el_slice (EvX.c (EvX.asL (ev_var (i := 4) rfl) (by first | exact htp.l | (rw [h_things]; exact htp.l)))) (eo_some (ev_i0 (ev_var (i := 5) rfl) (ev_int))) eo_none)) (by first | exact Lsz.cat (htp.z.to ha0.1) (htp.z.from (by omega)) (by omega) | exact Lsz.cat htp.z (htp.z.to (by decide)) (by decide) | exact Lsz.cat htp.z (.one hoth) (by decide) | exact Lsz.cat (htp.z.to ha0.1) (.one (hR_w.up (by decide) (Nat.le_refl _))) (by omega) | exact Lsz.cat ((htp.z.to ha0.1).app (.one (hR_w.up (by decide) (Nat.le_refl _)))) (htp.z.from (by omega)) (by omega) | exact Lsz.cat (htp.z.to ha0.1) (haf.to (by decide)) (by omega) | exact Lsz.cat ((htp.z.to ha0.1).app (haf.to (by decide))) (.one (htp.z.z _ (ix_mem ha0.1 (by simp at hb5; omega)))) (by omega) | exact Lsz.cat (((htp.z.to ha0.1).app (haf.to (by decide))).app (.one (htp.z.z _ (ix_mem ha0.1 (by simp at hb5; omega))))) (haf.from (by decide)) (by omega))))) (els_nil))) (by simp))) (hret _ _ (by exact (((htp.z.to ha0.1).app (.one (hR_w.up (by decide) (Nat.le_refl _)))).app (htp.z.from (by omega))).bent htp.wd (by omega)))
              ·
                refine q_next ?_
                refine qg_set 9 (EvL.ev (el_slice (EvX.c (EvX.asL (ev_var (i := 4) rfl) (by first | exact htp.l | (rw [h_things]; exact htp.l)))) (eo_some (ev_i0 (ev_var (i := 5) rfl) (ev_int))) eo_none)) rfl fun after h_after => ?_
                have haf : Lsz (121 - (at_ + 1).toNat) after := by rw [h_after]; exact htp.z.from (by omega)
                exact q_ret (EvX.dat (ev_tp (els_cons (ev_var (i := 3) rfl) (els_cons (EvX.dat (EvL.ev (el_catX (EvL.ev (el_catX (EvL.ev (el_catX (EvL.ev (el_slice (EvX.c (EvX.asL (ev_var (i := 4) rfl) (by first | exact htp.l | (rw [h_things]; exact htp.l)))) eo_none (eo_some (ev_var (i := 5) rfl)))) (EvL.ev (el_slice (EvX.c (ev_var (i := 9) rfl)) eo_none (eo_some (ev_int)))) (by first | exact Lsz.cat (htp.z.to ha0.1) (htp.z.from (by omega)) (by omega) | exact Lsz.cat htp.z (htp.z.to (by decide)) (by decide) | exact Lsz.cat htp.z (.one hoth) (by decide) | exact Lsz.cat (htp.z.to ha0.1) (.one (hR_w.up (by decide) (Nat.le_refl _))) (by omega) | exact Lsz.cat ((htp.z.to ha0.1).app (.one (hR_w.up (by decide) (Nat.le_refl _)))) (htp.z.from (by omega)) (by omega) | exact Lsz.cat (htp.z.to ha0.1) (haf.to (by decide)) (by omega) | exact Lsz.cat ((htp.z.to ha0.1).app (haf.to (by decide))) (.one (htp.z.z _ (ix_mem ha0.1 (by simp at hb5; omega)))) (by omega) | exact Lsz.cat (((htp.z.to ha0.1).app (haf.to (by decide))).app (.one (htp.z.z _ (ix_mem ha0.1 (by simp at hb5; omega))))) (haf.from (by decide)) (by omega)))) (EvL.ev (el_lst (els_cons (ev_ix (EvX.asL (ev_var (i := 4) rfl) (by first | exact htp.l | (rw [h_things]; exact htp.l))) (ev_var (i := 5) rfl) (by exact ⟨ha0.1, by simp at hb5; omega⟩)) (els_nil)) (by simp))) (by first | exact Lsz.cat (htp.z.to ha0.1) (htp.z.from (by omega)) (by omega) | exact Lsz.cat htp.z (htp.z.to (by decide)) (by decide) | exact Lsz.cat htp.z (.one hoth) (by decide) | exact Lsz.cat (htp.z.to ha0.1) (.one (hR_w.up (by decide) (Nat.le_refl _))) (by omega) | exact Lsz.cat ((htp.z.to ha0.1).app (.one (hR_w.up (by decide) (Nat.le_refl _)))) (htp.z.from (by omega)) (by omega) | exact Lsz.cat (htp.z.to ha0.1) (haf.to (by decide)) (by omega) | exact Lsz.cat ((htp.z.to ha0.1).app (haf.to (by decide))) (.one (htp.z.z _ (ix_mem ha0.1 (by simp at hb5; omega)))) (by omega) | exact Lsz.cat (((htp.z.to ha0.1).app (haf.to (by decide))).app (.one (htp.z.z _ (ix_mem ha0.1 (by simp at hb5; omega))))) (haf.from (by decide)) (by omega)))) (EvL.ev (el_slice (EvX.c (ev_var (i := 9) rfl)) (eo_some (ev_int)) eo_none)) (by first | exact Lsz.cat (htp.z.to ha0.1) (htp.z.from (by omega)) (by omega) | exact Lsz.cat htp.z (htp.z.to (by decide)) (by decide) | exact Lsz.cat htp.z (.one hoth) (by decide) | exact Lsz.cat (htp.z.to ha0.1) (.one (hR_w.up (by decide) (Nat.le_refl _))) (by omega) | exact Lsz.cat ((htp.z.to ha0.1).app (.one (hR_w.up (by decide) (Nat.le_refl _)))) (htp.z.from (by omega)) (by omega) | exact Lsz.cat (htp.z.to ha0.1) (haf.to (by decide)) (by omega) | exact Lsz.cat ((htp.z.to ha0.1).app (haf.to (by decide))) (.one (htp.z.z _ (ix_mem ha0.1 (by simp at hb5; omega)))) (by omega) | exact Lsz.cat (((htp.z.to ha0.1).app (haf.to (by decide))).app (.one (htp.z.z _ (ix_mem ha0.1 (by simp at hb5; omega))))) (haf.from (by decide)) (by omega))))) (els_nil))) (by simp))) (hret _ _ (by exact ((((htp.z.to ha0.1).app (haf.to (by decide))).app (.one (htp.z.z _ (ix_mem ha0.1 (by simp at hb5; omega))))).app (haf.from (by decide))).bent htp.wd (by omega)))
end
theorem sc__law_odd_right : FnScope ["book", "far", "odd", "thing", "rules", "great", "states", "k", "at"] ["book", "far"] (defScope s__law_odd_right) := ⟨rfl, rfl, rfl, by decide +kernel, rfl, by decide +kernel, by decide +kernel⟩
section
variable {P : Program} {w : World} {K : Fg} {mg : Str → Option Value} {base : Heap}
set_option maxHeartbeats 4000000 in
theorem ok__law_odd_right {Y : XC → Addr} (T : Tx K mg Y) (c_is_two_run : Cal P w K mg base 5 "is_two_run" ["book", "thing"] (spF K (fun a : (T4 (Tp Bool) (Tp Bool) Int (Tp (T5 Int Int (Option Int) Int (Option Int)))) × Dat × Unit => tworD a.1 a.2.1) (fun a => BookOk a.1 ∧ ThOk a.2.1))) : Cal P w K mg base 6 "_law_odd_right" ["book", "far"] (spF K (fun a : (T4 (Tp Bool) (Tp Bool) Int (Tp (T5 Int Int (Option Int) Int (Option Int)))) × Bool × Unit => true) (fun a => BookOk a.1)) := by
  have nd := sc__law_odd_right.nd
  refine def_spF (k := 5) T.d__law_odd_right sc__law_odd_right rfl fun fa cdv A outer s H E hr => ?_
  refine ⟨_, pss_cons (ps_set (i := 2) nd rfl (.inl rfl) (pe_lst (pa_cons (pe_tup (pa_nil)) (pa_cons (pe_tup (pa_cons (pe_str) pa_nil)) (pa_cons (pe_tup (pa_cons (pe_str) pa_nil)) (pa_cons (pe_tup (pa_cons (pe_str) pa_nil)) (pa_cons (pe_tup (pa_cons (pe_str) pa_nil)) (pa_cons (pe_int) (pa_cons (pe_int) (pa_cons (pe_bl) (pa_cons (pe_str) (pa_cons (pe_str) (pa_cons (pe_lst (pa_nil)) (pa_cons (pe_tup (pa_cons (pe_tup (pa_nil)) pa_nil)) (pa_cons (pe_tup (pa_cons (pe_str) (pa_cons (pe_lst (pa_nil)) (pa_cons (pe_lst (pa_nil)) (pa_cons (pe_lst (pa_nil)) pa_nil))))) pa_nil)))))))))))))))
      (pss_cons (ps_for PassesOwn.never rfl (pi_list (pe_op op_cat (pv 2) (pe_lst (pa_cons (pe_tup (pa_cons (pe_lst (pa_cons (pe_str) pa_nil)) (pa_cons (pe_lst (pa_nil)) pa_nil))) (pa_cons (pe_tup (pa_cons (pe_lst (pa_cons (pe_str) pa_nil)) (pa_cons (pe_lst (pa_nil)) (pa_cons (pe_lst (pa_nil)) pa_nil)))) pa_nil))))) (pg_name (i := 3) nd rfl (.inl rfl))
      (pss_cons (ps_if (pt_cmpR op_notBl (pe_cal c_is_two_run hr (by decide) (by rfl) (pa_cons (pv 0) (pa_cons (pv 3) pa_nil))) (pe_bl) (nomark _)) (pss_cons ps_never (pss_nil)) (pss_nil))
      (pss_nil)))
      (pss_cons (ps_if (pt_not (pt_val (pv 1))) (pss_cons (ps_ret (pe_bl))
      (pss_nil)) (pss_nil))
      (pss_cons (ps_set (i := 4) nd rfl (.inl rfl) (pe_op op_cat (pe_lc (own := [("k", 7)]) (g := gName 7) (by rfl) nd (pi_range1 (by rfl) T.n_range (pa_cons (pe_int) pa_nil)) (blkOk_by (N := ["book", "far", "odd", "thing", "rules", "great", "states", "k", "at"]) (sc := defScope s__law_odd_right) (by decide +kernel)) (fun _ _ _ _ _ => pg_name (i := 7) nd rfl (.inl rfl) (.inr rfl)) (fun _ _ _ _ _ => pts_nil) (fun _ _ _ _ _ => pe_tup (pa_cons (pe_int) (pa_cons (pv 7) (pa_cons (pe_non) (pa_cons (pe_op op_add (pv 7) (pe_int)) (pa_cons (pe_non) pa_nil))))))) (pe_lc (own := [("k", 7)]) (g := gName 7) (by rfl) nd (pi_range1 (by rfl) T.n_range (pa_cons (pe_int) pa_nil)) (blkOk_by (N := ["book", "far", "odd", "thing", "rules", "great", "states", "k", "at"]) (sc := defScope s__law_odd_right) (by decide +kernel)) (fun _ _ _ _ _ => pg_name (i := 7) nd rfl (.inl rfl) (.inr rfl)) (fun _ _ _ _ _ => pts_nil) (fun _ _ _ _ _ => pe_tup (pa_cons (pe_int) (pa_cons (pv 7) (pa_cons (pe_non) (pa_cons (pe_op op_add (pv 7) (pe_int)) (pa_cons (pe_non) pa_nil)))))))))
      (pss_cons (ps_set (i := 5) nd rfl (.inl rfl) (pe_tup (pa_cons (pe_op op_catA (pe_tup (pa_cons (pe_bl) pa_nil)) (pe_op op_repTA (pe_tup (pa_cons (pe_bl) pa_nil)) (pe_int))) (pa_cons (pe_op op_repTA (pe_tup (pa_cons (pe_bl) pa_nil)) (pe_int)) (pa_cons (pe_int) (pa_cons (pe_callTy call_tupG (by rfl) T.n_tuple (by decide +kernel) (pa_cons (pv 4) pa_nil)) pa_nil))))))
      (pss_cons (ps_setLc (i := 6) (own := [("at", 8)]) (g := gName 8) rfl nd rfl rfl (sw_true rfl rfl rfl (by decide +kernel)) (pi_range1 (by rfl) T.n_range (pa_cons (pe_int) pa_nil)) (blkOk_by (N := ["book", "far", "odd", "thing", "rules", "great", "states", "k", "at"]) (sc := defScope s__law_odd_right) (by decide +kernel)) (fun _ _ _ _ _ => pg_name (i := 8) nd rfl (.inl rfl) (.inr rfl)) (fun _ _ _ _ _ => pts_nil) (fun _ _ _ _ _ => pe_tup (pa_cons (pe_op op_fdiv (pv 8) (pe_int)) (pa_cons (pe_op op_mod (pv 8) (pe_int)) (pa_cons (pe_tup (pa_nil)) (pa_cons (pe_tup (pa_nil)) pa_nil))))))
      (pss_cons (ps_if (pt_cmpR op_notBl (pe_cal c_is_two_run hr (by decide) (by rfl) (pa_cons (pv 5) (pa_cons (pe_tup (pa_cons (pe_str) (pa_cons (pv 6) pa_nil))) pa_nil))) (pe_bl) (nomark _)) (pss_cons ps_never (pss_nil)) (pss_nil))
      (pss_cons (ps_ret (pe_cmpR op_isBl (pe_cal c_is_two_run hr (by decide) (by rfl) (pa_cons (pv 5) (pa_cons (pe_tup (pa_cons (pe_str) (pa_cons (pe_slice sl_list (pv 6) po_none (po_some (pe_un un_neg (pe_int)))) pa_nil))) pa_nil))) (pe_bl) (nomark _)))
      (pss_nil)))))))), ?_⟩
  rintro ⟨book, far, _⟩ hpre B S0 Q hret
  show At _ _ _ _ [.im book, .im far, .no, .no, .no, .no, .no, .no, .no]
  have hbk : BookOk book := hpre
  refine qg_set 2 (EvL.ev (el_lst (els_cons (EvX.dat (ev_tp (els_nil (α := Dat)) (by simp))) (els_cons (EvX.dat (ev_tp (els_cons (EvX.dat (ev_str)) (els_nil)) (by simp))) (els_cons (EvX.dat (ev_tp (els_cons (EvX.dat (ev_str)) (els_nil)) (by simp))) (els_cons (EvX.dat (ev_tp (els_cons (EvX.dat (ev_str)) (els_nil)) (by simp))) (els_cons (EvX.dat (ev_tp (els_cons (EvX.dat (ev_str)) (els_nil)) (by simp))) (els_cons (EvX.dat (ev_int)) (els_cons (EvX.dat (ev_int)) (els_cons (EvX.dat (ev_bl)) (els_cons (EvX.dat (ev_str)) (els_cons (EvX.dat (ev_str)) (els_cons (EvX.dat (EvL.ev (el_lst (els_nil (α := Int)) (by simp)))) (els_cons (EvX.dat (ev_tp (els_cons (EvX.dat (ev_tp (els_nil (α := Dat)) (by simp))) (els_nil)) (by simp))) (els_cons (EvX.dat (ev_tp (els_cons (EvX.dat (ev_str)) (els_cons (EvX.dat (EvL.ev (el_lst (els_nil (α := Int)) (by simp)))) (els_cons (EvX.dat (EvL.ev (el_lst (els_nil (α := Int)) (by simp)))) (els_cons (EvX.dat (EvL.ev (el_lst (els_nil (α := Int)) (by simp)))) (els_nil))))) (by simp))) (els_nil)))))))))))))) (by simp))) rfl fun odd h_odd => ?_
  have hodd : ∀ x ∈ odd, BentOk x ∧ tworD book x = false := by rw [h_odd]; repeat' (first | exact odd_nil | refine odd_cons ⟨bent_small (by repeat' (first | exact dsz_nil | exact dsz_non | exact dsz_bl | exact dsz_int (by decide) (by decide) | exact dsz_int (by have := hbk.many; omega) (by decide) | exact dsz_str (by decide +kernel) (by decide +kernel) | refine dsz_cons ?_ ?_ | refine dsz_lst (w := 40) ?_ (Nat.le_of_ble_eq_true rfl) | refine dsz_tup (w := 800) ?_ (Nat.le_of_ble_eq_true rfl) | refine dsz_tup (w := 180) ?_ (Nat.le_of_ble_eq_true rfl))), by unfold tworD; rfl⟩ ?_)
  refine qg_inv (fun st_ : Unit => [.im book, .im far, .im odd, .no, .no, .no, .no, .no, .no]) (fun _ (_ : Unit) => True) () (it_list (EvL.ev (el_catX (ev_var (i := 2) rfl) (EvL.ev (el_lst (els_cons (EvX.dat (ev_tp (els_cons (EvX.dat (EvL.ev (el_lst (els_cons (ev_str) (els_nil)) (by simp)))) (els_cons (EvX.dat (EvL.ev (el_lst (els_nil (α := Int)) (by simp)))) (els_nil))) (by simp))) (els_cons (EvX.dat (ev_tp (els_cons (EvX.dat (EvL.ev (el_lst (els_cons (ev_str) (els_nil)) (by simp)))) (els_cons (EvX.dat (EvL.ev (el_lst (els_nil (α := Int)) (by simp)))) (els_cons (EvX.dat (EvL.ev (el_lst (els_nil (α := Int)) (by simp)))) (els_nil)))) (by simp))) (els_nil))) (by simp))) (by rw [h_odd]; exact le_line (by simp))))) (.k (.k (.k (.d (.d (.d (.d (.d (.d .n))))))))) (by trivial) (fun pre0 thing post0 s0 ex0 hs0 Sb0 rb0 => ⟨_, _, tg_name rfl, ?_⟩) (fun s0 hs0 => ?_)
  ·
    show At _ _ _ _ [.im book, .im far, .im odd, .im thing, .no, .no, .no, .no, .no]
    obtain ⟨hbt, hno⟩ : BentOk thing ∧ tworD book thing = false := (List.mem_append.mp (in_pre ex0)).elim (hodd thing) (fun q => odd_all (P := fun x => BentOk x ∧ tworD book x = false) (by repeat' (first | exact odd_nil | refine odd_cons ⟨bent_small (by repeat' (first | exact dsz_nil | exact dsz_non | exact dsz_bl | exact dsz_int (by decide) (by decide) | exact dsz_int (by have := hbk.many; omega) (by decide) | exact dsz_str (by decide +kernel) (by decide +kernel) | refine dsz_cons ?_ ?_ | refine dsz_lst (w := 40) ?_ (Nat.le_of_ble_eq_true rfl) | refine dsz_tup (w := 800) ?_ (Nat.le_of_ble_eq_true rfl) | refine dsz_tup (w := 180) ?_ (Nat.le_of_ble_eq_true rfl))), by unfold tworD; rfl⟩ ?_)) q)
    refine q_ifF (et_test (ev_nisB (ev_call (ea_cons (ev_var (i := 0) rfl) (ea_cons (ev_var (i := 3) rfl) (ea_nil))) (by first | exact ⟨hbk, hbt.th⟩ | exact hp1 | exact hp2)) (ev_bl))) ?_ ?_
    · rw [hno]; rfl
    exact q_next (at_mid (.k (.k (.k (.d (.d (.d (.d (.d (.d .n))))))))) ⟨(), by rfl, by trivial⟩)
  ·
    show At _ _ _ _ [.im book, .im far, .im odd, .no, .no, .no, .no, .no, .no]
    refine q_if (et_not (et_B (ev_var (i := 1) rfl))) (fun hb1 => ?_) (fun hb1 => ?_)
    ·
      exact q_ret (ev_bl) (hret _ _ (by subst_vars; rfl))
    ·
      refine q_next ?_
      refine qg_set 4 (EvL.ev (el_catX (EvL.ev (el_lcM _ (it_rng1 (ev_int) (by decide)) (by first | omega | (dsimp only; omega) | (rw [len_rng]; omega) | (rw [len_rng]; exact le_line (by omega))) rfl (fun x hm_x => ⟨_, _, tg_name rfl, (by decide), ev_t5 (ev_int) (ev_var (i := 7) rfl) (ev_none (α := Int)) (ev_i0 (ev_var (i := 7) rfl) (ev_int)) (ev_none (α := Int))⟩))) (EvL.ev (el_lcM _ (it_rng1 (ev_int) (by decide)) (by first | omega | (dsimp only; omega) | (rw [len_rng]; omega) | (rw [len_rng]; exact le_line (by omega))) rfl (fun x1 hm_x1 => ⟨_, _, tg_name rfl, (by decide), ev_t5 (ev_int) (ev_var (i := 7) rfl) (ev_none (α := Int)) (ev_i0 (ev_var (i := 7) rfl) (ev_int)) (ev_none (α := Int))⟩))) (by first | exact le_line (by simp [len_rng]) | (rw [h_odd]; exact le_line (by simp)) | exact le_line (by simp)))) rfl fun rules h_rules => ?_
      refine qg_set 5 (ev_t4 (ev_catT (ev_tp (els_cons (ev_bl) (els_nil)) (by simp)) (ev_repT (ev_tp (els_cons (ev_bl) (els_nil)) (by simp)) (ev_int) (by simp) (by simp) (by decide) (by decide)) (by first | exact le_line (by simp [len_rng]) | (rw [h_odd]; exact le_line (by simp)) | exact le_line (by simp))) (ev_repT (ev_tp (els_cons (ev_bl) (els_nil)) (by simp)) (ev_int) (by simp) (by simp) (by decide) (by decide)) (ev_int) (ev_tup (EvX.c (ev_var (i := 4) rfl)))) rfl fun great h_great => ?_
      show At _ _ _ _ [.im book, .im far, .im odd, .no, .im rules, .im great, .no, .no, .no]
      refine qg_set 6 (EvL.ev (el_lcM _ (it_rng1 (ev_int) (by decide)) (by first | omega | (dsimp only; omega) | (rw [len_rng]; omega) | (rw [len_rng]; exact le_line (by omega))) rfl (fun x2 hm_x2 => ⟨_, _, tg_name rfl, (by decide), ev_t4 (ev_iC (ev_var (i := 8) rfl) (ev_int) (by first | exact ⟨by decide, by decide⟩ | exact ⟨by omega, by omega⟩)) (ev_iC (ev_var (i := 8) rfl) (ev_int) (by first | decide | (show (0 : Int) < _; omega))) (ev_tp (els_nil (α := Int)) (by simp)) (ev_tp (els_nil (α := Int)) (by simp))⟩))) rfl fun states h_states => ?_
      have hgr : great = greatB := by rw [h_great, h_rules]; unfold greatB greatR; rfl
      have hst : states = greatS := by rw [h_states]; unfold greatS; rfl
      have hy1 : tworD great (ToD.dat (⟨[ToD.dat (Str.ofString "never"), ToD.dat states]⟩ : Tp Dat)) = true := by rw [hgr, hst]; exact great_y
      have hy2 : tworD great (ToD.dat (⟨[ToD.dat (Str.ofString "never"), ToD.dat (cutL states none (some (-1)))]⟩ : Tp Dat)) = false := by rw [hgr, hst]; exact great_n
      have hp1 : BookOk great ∧ ThOk (ToD.dat (⟨[ToD.dat (Str.ofString "never"), ToD.dat states]⟩ : Tp Dat)) := by rw [hgr, hst]; exact ⟨great_ok, great_th1⟩
      have hp2 : BookOk great ∧ ThOk (ToD.dat (⟨[ToD.dat (Str.ofString "never"), ToD.dat (cutL states none (some (-1)))]⟩ : Tp Dat)) := by rw [hgr, hst]; exact ⟨great_ok, great_th2⟩
      refine q_ifF (et_test (ev_nisB (ev_call (ea_cons (ev_var (i := 5) rfl) (ea_cons (EvX.dat (ev_tp (els_cons (EvX.dat (ev_str)) (els_cons (EvX.dat (ev_var (i := 6) rfl)) (els_nil))) (by simp))) (ea_nil))) (by exact hp1)) (ev_bl))) ?_ ?_
      · rw [hy1]; rfl
      exact q_ret (ev_isB (ev_call (ea_cons (ev_var (i := 5) rfl) (ea_cons (EvX.dat (ev_tp (els_cons (EvX.dat (ev_str)) (els_cons (EvX.dat (EvL.ev (el_slice (EvX.c (ev_var (i := 6) rfl)) eo_none (eo_some (ev_neg (ev_int)))))) (els_nil))) (by simp))) (ea_nil))) (by exact hp2)) (ev_bl)) (hret _ _ (by rw [hy2]; rfl))
end
theorem sc_law : FnScope ["script", "book", "found", "told", "k", "some", "walk", "more", "thing", "bent"] ["script"] (defScope s_law) := ⟨rfl, rfl, rfl, by decide +kernel, rfl, by decide +kernel, by decide +kernel⟩
section
variable {P : Program} {w : World} {K : Fg} {mg : Str → Option Value} {base : Heap}
set_option maxHeartbeats 4000000 in
theorem ok_law {fa : Addr} {fd : FuncData} {Y : XC → Addr} (T : Tx K mg Y) (F : Fun K "law" "law" s_law fa fd) (c__law_all : Cal P w K mg base 2 "_law_all" ["book", "most"] (spF K (fun a : (T4 (Tp Bool) (Tp Bool) Int (Tp (T5 Int Int (Option Int) Int (Option Int)))) × Int × Unit => allM a.1 a.2.1) (fun a => BookOk a.1 ∧ 0 ≤ a.2.1 ∧ a.2.1 ≤ 800))) (c__law_bent : Cal P w K mg base 2 "_law_bent" ["book", "thing", "some"] (spQ K (fun (a : (T4 (Tp Bool) (Tp Bool) Int (Tp (T5 Int Int (Option Int) Int (Option Int)))) × Dat × (List Int) × Unit) (y : Dat) => BentOk y) (fun a => BookOk a.1 ∧ TwT a.1 a.2.1 ∧ 5 ≤ a.2.2.1.length))) (c__law_book : Cal P w K mg base 3 "_law_book" ["script"] (spQ K (fun (a : Scr × Unit) (y : (T4 (Tp Bool) (Tp Bool) Int (Tp (T5 Int Int (Option Int) Int (Option Int))))) => BookOk y) (fun a => a.1.l.length ≤ 63))) (c__law_cell : Cal P w K mg base 1 "_law_cell" ["script", "k"] (spF K (fun a : Scr × Int × Unit => cellB a.1.l a.2.1) (fun a => 0 ≤ a.2.1 ∧ a.2.1 ≤ 1000))) (c__law_gone_on : Cal P w K mg base 2 "_law_gone_on" ["book", "starts", "most"] (spQ K (fun (a : (T4 (Tp Bool) (Tp Bool) Int (Tp (T5 Int Int (Option Int) Int (Option Int)))) × (List (T4 Int Int (Tp Int) (Tp Int))) × Int × Unit) (y : (List (T4 Int Int (Tp Int) (Tp Int)))) => (∀ s ∈ y, StOk a.1 s) ∧ y.length ≤ 120) (fun a => BookOk a.1 ∧ (∀ s ∈ a.2.1, StOk a.1 s) ∧ a.2.1.length ≤ 100 ∧ 0 ≤ a.2.2.1 ∧ a.2.2.1 ≤ 120))) (c__law_held : CalG P w K mg base 6 "_law_held" ["book", "thing"] (spF K (fun a : (T4 (Tp Bool) (Tp Bool) Int (Tp (T5 Int Int (Option Int) Int (Option Int)))) × Dat × Unit => true) (fun a => BookOk a.1 ∧ ThOk a.2.1 ∧ ShOk a.2.1))) (c__law_odd_right : Cal P w K mg base 6 "_law_odd_right" ["book", "far"] (spF K (fun a : (T4 (Tp Bool) (Tp Bool) Int (Tp (T5 Int Int (Option Int) Int (Option Int)))) × Bool × Unit => true) (fun a => BookOk a.1))) (c__law_some : Cal P w K mg base 2 "_law_some" ["cell", "many"] (spF K (fun a : Int × Int × Unit => someB a.1 a.2.1) (fun a => 0 ≤ a.2.1 ∧ a.2.1 ≤ 1000))) (c__law_start : Cal P w K mg base 3 "_law_start" ["book", "found", "some"] (spF K (fun a : (T4 (Tp Bool) (Tp Bool) Int (Tp (T5 Int Int (Option Int) Int (Option Int)))) × (List (T4 Int Int (Tp Int) (Tp Int))) × (List Int) × Unit => startM a.1 a.2.1 a.2.2.1) (fun a => BookOk a.1 ∧ (∀ s ∈ a.2.1, StOk a.1 s) ∧ a.2.1 ≠ [] ∧ 5 ≤ a.2.2.1.length))) (c__law_walk : Cal P w K mg base 2 "_law_walk" ["book", "some"] (spQ K (fun (a : (T4 (Tp Bool) (Tp Bool) Int (Tp (T5 Int Int (Option Int) Int (Option Int)))) × (List Int) × Unit) (y : (List Int)) => y.length ≤ a.2.1.length ∧ ∀ x ∈ y, 0 ≤ x ∧ x < ((a.1.d.l.length : Nat) : Int)) (fun a => BookOk a.1 ∧ a.2.1.length ≤ 100))) (c_is_two_run : Cal P w K mg base 5 "is_two_run" ["book", "thing"] (spF K (fun a : (T4 (Tp Bool) (Tp Bool) Int (Tp (T5 Int Int (Option Int) Int (Option Int)))) × Dat × Unit => tworD a.1 a.2.1) (fun a => BookOk a.1 ∧ ThOk a.2.1))) (c_two_run : CalXD P w K mg base 4 "two_run" ["book", "limit"] "limit" (.int 200) (spXN K Y (fun (a : (T4 (Tp Bool) (Tp Bool) Int (Tp (T5 Int Int (Option Int) Int (Option Int)))) × Int × Unit) => (twoX a.1 a.2.1 : XC ⊕ (Str × (Sum (List Int) (List (T4 Int Int (Tp Int) (Tp Int))))))) (fun a => BookOk a.1 ∧ 1 ≤ a.2.1 ∧ a.2.1 ≤ 1000))) : FnOkG P w K mg base 7 fa fd ["script"] (spLaw K) := by
  have nd := sc_law.nd
  refine fn_lawG (k := 6) F sc_law fun cdv A outer s H E hg hr => ?_
  refine ⟨_, pss_cons (ps_set (i := 1) nd rfl (.inl rfl) (pe_cal c__law_book hr (by decide) (by rfl) (pa_cons (pv 0) pa_nil)))
      (pss_cons (ps_set (i := 2) nd rfl (.inl rfl) (pe_cal c__law_all hr (by decide) (by rfl) (pa_cons (pv 1) (pa_cons (pe_int) pa_nil))))
      (Evl.pss_cut (ps_if (pt_cmpR op_gt (pe_callB call_lenG (by rfl) T.n_len (by decide +kernel) (pa_cons (pv 2) pa_nil)) (pe_int) (nomark _)) (pss_cons (ps_set (i := 1) nd rfl (.inl rfl) (pe_tup (pa_cons (pe_tup (pa_cons (pe_bl) (pa_cons (pe_bl) pa_nil))) (pa_cons (pe_tup (pa_cons (pe_bl) (pa_cons (pe_bl) pa_nil))) (pa_cons (pe_int) (pa_cons (pe_tup (pa_cons (pe_tup (pa_cons (pe_int) (pa_cons (pe_int) (pa_cons (pe_non) (pa_cons (pe_int) (pa_cons (pe_int) pa_nil)))))) (pa_cons (pe_tup (pa_cons (pe_int) (pa_cons (pe_int) (pa_cons (pe_int) (pa_cons (pe_int) (pa_cons (pe_non) pa_nil)))))) (pa_cons (pe_tup (pa_cons (pe_int) (pa_cons (pe_int) (pa_cons (pe_non) (pa_cons (pe_int) (pa_cons (pe_int) pa_nil)))))) pa_nil)))) pa_nil))))))
      (pss_cons (ps_set (i := 2) nd rfl (.inl rfl) (pe_cal c__law_all hr (by decide) (by rfl) (pa_cons (pv 1) (pa_cons (pe_int) pa_nil))))
      (pss_nil))) (pss_nil))
      (pss_cons (ps_set (i := 3) nd rfl (.inl rfl) (pe_calXD c_two_run (takes_never) hr (by decide) (by rfl) (pa_cons (pv 1) pa_nil)))
      (pss_cons (ps_if (pt_cmpR op_notBl (pe_cal c_is_two_run hr (by decide) (by rfl) (pa_cons (pv 1) (pa_cons (pv 3) pa_nil))) (pe_bl) (nomark _)) (pss_cons ps_never (pss_nil)) (pss_nil))
      (pss_cons (ps_for PassesOwn.never rfl (pi_range1 (by rfl) T.n_range (pa_cons (pe_int) pa_nil)) (pg_name (i := 4) nd rfl (.inl rfl))
      (pss_cons (ps_set (i := 5) nd rfl (.inl rfl) (pe_slice sl_list (pe_cal c__law_some hr (by decide) (by rfl) (pa_cons (pe_cal c__law_cell hr (by decide) (by rfl) (pa_cons (pv 0) (pa_cons (pv 4) pa_nil))) (pa_cons (pe_int) pa_nil))) (po_some (pe_int)) po_none))
      (pss_cons (ps_set (i := 6) nd rfl (.inl rfl) (pe_cal c__law_walk hr (by decide) (by rfl) (pa_cons (pv 1) (pa_cons (pe_slice sl_list (pv 5) (po_some (pe_int)) (po_some (pe_int))) pa_nil))))
      (pss_cons (ps_set (i := 7) nd rfl (.inl rfl) (pe_cal c__law_gone_on hr (by decide) (by rfl) (pa_cons (pv 1) (pa_cons (pe_op op_cat (pv 2) (pe_lst (pa_cons (pe_cal c__law_start hr (by decide) (by rfl) (pa_cons (pv 1) (pa_cons (pv 2) (pa_cons (pe_slice sl_list (pv 5) (po_some (pe_int)) po_none) pa_nil)))) pa_nil))) (pa_cons (pe_int) pa_nil)))))
      (pss_cons (ps_set (i := 8) nd rfl (.inl rfl) (pe_ix (r := rIxL K) ix_list (pe_lst (pa_cons (pv 3) (pa_cons (pe_tup (pa_cons (pe_str) (pa_cons (pv 7) pa_nil))) (pa_cons (pe_tup (pa_cons (pe_str) (pa_cons (pv 6) pa_nil))) (pa_cons (pe_tup (pa_cons (pe_str) (pa_cons (pv 7) pa_nil))) pa_nil))))) (pe_op op_mod (pe_ix (r := rIxL K) ix_list (pv 5) (pe_int) (fun _ _ => rfl)) (pe_int)) (fun _ _ => rfl)))
      (pss_cons (ps_set (i := 9) nd rfl (.inl rfl) (pe_cal c__law_bent hr (by decide) (by rfl) (pa_cons (pv 1) (pa_cons (pv 8) (pa_cons (pv 5) pa_nil)))))
      (pss_cons (ps_if (PW.pt (pw_or (pt_not (pt_val (pe_calG c__law_held hg hr (by decide) (by rfl) (pa_cons (pv 1) (pa_cons (pv 8) pa_nil))))) (pw_or1 (pt_not (pt_val (pe_calG c__law_held hg hr (by decide) (by rfl) (pa_cons (pv 1) (pa_cons (pv 9) pa_nil)))))))) (pss_cons ps_never (pss_nil)) (pss_nil))
      (pss_nil))))))))
      (pss_cons (ps_ret (pe_cal c__law_odd_right hr (by decide) (by rfl) (pa_cons (pv 1) (pa_cons (pe_cmpR op_eq (pe_op op_mod (pe_callB call_lenG (by rfl) T.n_len (by decide +kernel) (pa_cons (pv 0) pa_nil)) (pe_int)) (pe_int) (nomark _)) pa_nil))))
      (pss_nil))))))), ?_⟩
  intro script hpre B S0 Q hret
  show At _ _ _ _ [.im script, .no, .no, .no, .no, .no, .no, .no, .no, .no]
  refine q_setW 1 (ew_callQ (ea_cons (ev_var (i := 0) rfl) (ea_nil)) (by ((try dsimp only) <;> (repeat' (first | assumption | omega | refine And.intro ?_ ?_)) <;> first | trivial | assumption | omega | decide | simp))) (fun _ => rfl) fun w hR_w => ?_
  show At _ _ _ _ [.im script, .im w, .no, .no, .no, .no, .no, .no, .no, .no]
  refine qg_set 2 (ev_call (ea_cons (ev_var (i := 1) rfl) (ea_cons (ev_int) (ea_nil))) (by exact ⟨hR_w, by show (0 : Int) ≤ 60; decide, by show (60 : Int) ≤ 800; decide⟩)) rfl fun found h_found => ?_
  refine q_cutI (fun st_ : (T4 (Tp Bool) (Tp Bool) Int (Tp (T5 Int Int (Option Int) Int (Option Int)))) × (List (T4 Int Int (Tp Int) (Tp Int))) => [.im script, .im st_.1, .im st_.2, .no, .no, .no, .no, .no, .no, .no]) (fun st : Book × List RSt => BookOk st.1 ∧ st.2 = allM st.1 60 ∧ st.2.length ≤ 60) ?_ (fun sI0 hI_0 => ?_)
  · refine q_ifc (et_test (ev_b0 (ev_len (EvX.c (ev_var (i := 2) rfl))) (ev_int))) (fun hb0 => ?_) (fun hb0 => ?_)
    ·
      refine qg_set 1 (ev_t4 (ev_tp (els_cons (ev_bl) (els_cons (ev_bl) (els_nil))) (by simp)) (ev_tp (els_cons (ev_bl) (els_cons (ev_bl) (els_nil))) (by simp)) (ev_int) (ev_tp (els_cons (ev_t5 (ev_int) (ev_int) (ev_none (α := Int)) (ev_int) (EvX.some (ev_int))) (els_cons (ev_t5 (ev_int) (ev_int) (EvX.some (ev_int)) (ev_int) (ev_none (α := Int))) (els_cons (ev_t5 (ev_int) (ev_int) (ev_none (α := Int)) (ev_int) (EvX.some (ev_int))) (els_nil)))) (by simp))) rfl fun book h_book => ?_
      show At _ _ _ _ [.im script, .im book, .im found, .no, .no, .no, .no, .no, .no, .no]
      refine qg_set 2 (ev_call (ea_cons (ev_var (i := 1) rfl) (ea_cons (ev_int) (ea_nil))) (by exact ⟨by rw [show book = smallB ⟨1, 0, none, 0, some 0⟩ from by rw [h_book]; unfold smallB; rfl]; exact small35_ok, by show (0 : Int) ≤ 60; decide, by show (60 : Int) ≤ 800; decide⟩)) rfl fun found1 h_found1 => ?_
      refine q_next ?_
      exact at_mid (.k (.k (.k (.d (.d (.d (.d (.d (.d (.d .n)))))))))) ⟨(book, found1), rfl, by have e9 : book = smallB ⟨1, 0, none, 0, some 0⟩ := (by rw [h_book]; unfold smallB; rfl); exact ⟨by rw [e9]; exact small35_ok, h_found1, by dsimp only; rw [h_found1, e9]; exact small35_len⟩⟩
    ·
      refine q_next ?_
      exact at_mid (.k (.k (.k (.d (.d (.d (.d (.d (.d (.d .n)))))))))) ⟨(w, found), rfl, by have h9 := of_decide_eq_false hb0; exact ⟨hR_w, h_found, by dsimp only; omega⟩⟩
  ·
    obtain ⟨book1, found2⟩ := sI0
    show At _ _ _ _ [.im script, .im book1, .im found2, .no, .no, .no, .no, .no, .no, .no]
    obtain ⟨hbk, hfa, hfl⟩ := hI_0
    dsimp only at hbk hfa hfl
    obtain ⟨n_, hmo⟩ := all_bd hbk
    rw [← hfa] at hmo
    obtain ⟨y0, ey0, htw0, hty0⟩ := hmo.tw hbk hfl
    have hfo : ∀ s ∈ found2, StOk book1 s := by rw [hmo.ef]; exact Us_ok hbk (first_ok hbk) n_
    have hfn : found2 ≠ [] := by rw [hmo.ef]; exact List.ne_nil_of_mem Us_first
    refine qg_set 3 (ev_callXNok (y0) (ea_dfl (ev_var (i := 1) rfl)) (by exact ⟨hbk, by show (1 : Int) ≤ 200; decide, by show (200 : Int) ≤ 1000; decide⟩) (by exact ey0)) rfl fun told h_told => ?_
    have htT : TwT book1 (ToD.dat told) := by rw [h_told]; exact htw0
    show At _ _ _ _ [.im script, .im book1, .im found2, .im told, .no, .no, .no, .no, .no, .no]
    refine q_ifF (et_test (ev_nisB (ev_call (ea_cons (ev_var (i := 1) rfl) (ea_cons (EvX.dat (ev_var (i := 3) rfl)) (ea_nil))) (by exact ⟨hbk, by rw [h_told]; exact (htw0.bent hbk).th⟩)) (ev_bl))) ?_ ?_
    · rw [h_told, hty0]; rfl
    refine qg_inv (fun st_ : Unit => [.im script, .im book1, .im found2, .im told, .no, .no, .no, .no, .no, .no]) (fun _ (_ : Unit) => True) () (it_rng1 (ev_int) (by first | omega | (dsimp only; omega))) (.k (.k (.k (.k (.d (.d (.d (.d (.d (.d .n)))))))))) (by trivial) (fun pre0 k post0 s0 ex0 hs0 Sb0 rb0 => ⟨_, _, tg_name rfl, ?_⟩) (fun s0 hs0 => ?_)
    ·
      show At _ _ _ _ [.im script, .im book1, .im found2, .im told, .im k, .no, .no, .no, .no, .no]
      have hk := mem_rng.mp (in_pre ex0)
      refine qg_set 5 (EvL.ev (el_slice (EvX.c (ev_call (ea_cons (ev_call (ea_cons (ev_var (i := 0) rfl) (ea_cons (ev_var (i := 4) rfl) (ea_nil))) (by ((try dsimp only) <;> (repeat' (first | assumption | omega | refine And.intro ?_ ?_)) <;> first | trivial | assumption | omega | decide | simp))) (ea_cons (ev_int) (ea_nil))) (by exact ⟨by dsimp only; decide, by dsimp only; decide⟩))) (eo_some (ev_int)) eo_none)) rfl fun some h_some => ?_
      have hsl : some.length = 15 := by rw [h_some]; exact cut9 (n := 24) (by rw [someB_len]; rfl)
      refine q_setW 6 (ew_callQ (ea_cons (ev_var (i := 1) rfl) (ea_cons (EvL.ev (el_slice (EvX.c (ev_var (i := 5) rfl)) (eo_some (ev_int)) (eo_some (ev_int)))) (ea_nil))) (by exact ⟨hbk, Nat.le_trans cutL_len (by omega)⟩)) (fun _ => rfl) fun w1 hR_w1 => ?_
      show At _ _ _ _ [.im script, .im book1, .im found2, .im told, .im k, .im some, .im w1, .no, .no, .no]
      refine q_setW 7 (ew_callQ (ea_cons (ev_var (i := 1) rfl) (ea_cons (EvL.ev (el_catX (ev_var (i := 2) rfl) (EvL.ev (el_lst (els_cons (ev_call (ea_cons (ev_var (i := 1) rfl) (ea_cons (ev_var (i := 2) rfl) (ea_cons (EvL.ev (el_slice (EvX.c (ev_var (i := 5) rfl)) (eo_some (ev_int)) eo_none)) (ea_nil)))) (by exact ⟨hbk, hfo, hfn, by have h9 : (cutL some (Option.some 5) none).length = 15 - 5 := cut9 (a := 5) hsl; dsimp only; omega⟩)) (els_nil)) (by simp))) (by exact le_line (by simp only [List.length_singleton]; omega)))) (ea_cons (ev_int) (ea_nil)))) (by exact ⟨hbk, all_snocS hfo (start_ok hbk hfo hfn), by dsimp only; rw [List.length_append, List.length_singleton]; omega, by show (0 : Int) ≤ 120; decide, by show (120 : Int) ≤ 120; decide⟩)) (fun _ => rfl) fun w2 hR_w2 => ?_
      show At _ _ _ _ [.im script, .im book1, .im found2, .im told, .im k, .im some, .im w1, .im w2, .no, .no]
      show At _ _ _ _ [.im script, .im book1, .im found2, .im told, .im k, .im some, .im w1, .im w2, .no, .no]
      refine qg_set 8 (ev_ix (EvL.ev (el_lst (els_cons (EvX.dat (ev_var (i := 3) rfl)) (els_cons (EvX.dat (ev_pair (ev_str) (ev_var (i := 7) rfl))) (els_cons (EvX.dat (ev_pair (ev_str) (ev_var (i := 6) rfl))) (els_cons (EvX.dat (ev_pair (ev_str) (ev_var (i := 7) rfl))) (els_nil))))) (by simp))) (ev_iC (ev_ix (ev_var (i := 5) rfl) (ev_int) (by first | exact ⟨by decide, by rw [hsl]; decide⟩ | exact modB (by decide))) (ev_int) (by first | decide | (show (0 : Int) < _; omega))) (by first | exact ⟨by decide, by rw [hsl]; decide⟩ | exact modB (by decide))) rfl fun thing h_thing => ?_
      have hw1l : w1.length ≤ 15 := Nat.le_trans hR_w1.1 (Nat.le_trans cutL_len (by omega))
      have hmn := hbk.many
      have hTw : TwT book1 thing := by rw [h_thing]; exact tw_ix (odd_cons htT (odd_cons (tw_never hR_w2.1 (show w2.length ≤ 121 from Nat.le_trans hR_w2.2 (by decide))) (odd_cons (tw_two (fun x hx => by have h9 := hR_w1.2 x hx; dsimp only at h9; omega) (show w1.length ≤ 121 from Nat.le_trans hw1l (by decide))) (odd_cons (tw_never hR_w2.1 (show w2.length ≤ 121 from Nat.le_trans hR_w2.2 (by decide))) odd_nil)))) (modB (by decide))
      refine q_setW 9 (ew_callQ (ea_cons (ev_var (i := 1) rfl) (ea_cons (ev_var (i := 8) rfl) (ea_cons (ev_var (i := 5) rfl) (ea_nil)))) (by exact ⟨hbk, hTw, by dsimp only; omega⟩)) (fun _ => rfl) fun w3 hR_w3 => ?_
      show At _ _ _ _ [.im script, .im book1, .im found2, .im told, .im k, .im some, .im w1, .im w2, .im thing, .im w3]
      refine q_ifF (et_or (et_not (et_B (ev_call (ea_cons (ev_var (i := 1) rfl) (ea_cons (ev_var (i := 8) rfl) (ea_nil))) (by exact ⟨hbk, (hTw.bent hbk).th, (hTw.bent hbk).sh⟩)))) (fun hc => et_not (et_B (ev_call (ea_cons (ev_var (i := 1) rfl) (ea_cons (ev_var (i := 9) rfl) (ea_nil))) (by exact ⟨hbk, BentOk.th hR_w3, BentOk.sh hR_w3⟩))))) ?_ ?_
      · rfl
      exact q_next (at_mid (.k (.k (.k (.k (.d (.d (.d (.d (.d (.d .n)))))))))) ⟨(), by rfl, by trivial⟩)
    ·
      show At _ _ _ _ [.im script, .im book1, .im found2, .im told, .no, .no, .no, .no, .no, .no]
      exact q_ret (ev_call (ea_cons (ev_var (i := 1) rfl) (ea_cons (ev_eq (ev_iC (ev_lenS (ev_var (i := 0) rfl)) (ev_int) (by first | decide | (show (0 : Int) < _; omega))) (ev_int)) (ea_nil))) (by exact hbk)) (hret _ _ (by rfl))
end
end L35
namespace L35
open PySem PySem.Spec PyProof.Rows L2 GL
theorem def_mk {K : Fg} {mg : Str → Option Value} {h : Heap} {x : Str} {st : Stmt} {ps : List Str} {f : Addr} {oc : Value} {od an : Option Addr} {osl : Array (Option Value)} {kV doc pm cdv ct : Value} (X : K.In h) (G : h.Ns mainGlobals mg) (a : PySem.W.nsIn K mainGlobals x = some (some (.ref f)))
    (l : K.lookup f = some ⟨oc, od, .func (PySem.W.fnOf x x (defArgs st) (defBody st) (defScope st) .none kV doc pm an cdv ct), osl⟩) (c : PySem.W.codeIn K cdv x = true) (k : PySem.W.keepIn K (.ref f) = true)
    (hb : ∀ (kV doc pm : Value) (an : Option Addr) (cdv ct : Value) (us : List Value), us.length = ps.length → bindArgs (PySem.W.fnOf x x (defArgs st) (defBody st) (defScope st) .none kV doc pm an cdv ct) ⟨us, []⟩ = pure (ps.zip us)) : Def K mg x st ps :=
  ⟨f, _, PySem.W.mg_of X G a, fun_mk l c k, (fun_mk l c k).binds hb⟩
section
variable {P : Program} {w : World} {K : Fg} {mg : Str → Option Value} {base : Heap}
set_option maxHeartbeats 4000000 in
theorem all_ok {fa : Addr} {fd : FuncData} {Y : XC → Addr} (T : Tx K mg Y) (F : Fun K "law" "law" s_law fa fd) : FnOkG P w K mg base 7 fa fd ["script"] (spLaw K) := by
  have c_can_do : Cal P w K mg base 1 "can_do" ["state", "rule"] (spF K (fun a : (T4 Int Int (Tp Int) (Tp Int)) × (T5 Int Int (Option Int) Int (Option Int)) × Unit => canM a.1 a.2.1) (fun a => 0 ≤ a.2.1.a ∧ a.2.1.a < 2)) := ok_can_do T 
  have c_with_letter : Cal P w K mg base 1 "with_letter" ["letters", "said"] (spF K (fun a : (Tp Int) × (Option Int) × Unit => (Tp.mk (withLet a.1.l a.2.1))) (fun a => a.1.l.length ≤ 100)) := ok_with_letter T 
  have c_comes_of : Cal P w K mg base 2 "comes_of" ["state", "rule"] (spF K (fun a : (T4 Int Int (Tp Int) (Tp Int)) × (T5 Int Int (Option Int) Int (Option Int)) × Unit => comesM a.1 a.2.1) (fun a => (0 ≤ a.2.1.a ∧ a.2.1.a < 2) ∧ (a.1.c.l.length ≤ 100 ∧ a.1.d.l.length ≤ 100))) := ok_comes_of T c_with_letter
  have c_is_below : Cal P w K mg base 1 "is_below" ["thing", "bound"] (spF K (fun a : Dat × Int × Unit => btwD a.1 0 (a.2.1 - 1)) (fun a => True)) := ok_is_below T 
  have c_states_along : Cal P w K mg base 3 "states_along" ["book", "steps"] (spF K (fun a : (T4 (Tp Bool) (Tp Bool) Int (Tp (T5 Int Int (Option Int) Int (Option Int)))) × (List Dat) × Unit => alongM a.1 a.2.1) (fun a => BookOk a.1 ∧ a.2.1.length ≤ 2000)) := ok_states_along T c_can_do c_comes_of c_is_below
  have c_runners : Cal P w K mg base 1 "runners" ["book", "state"] (spF K (fun a : (T4 (Tp Bool) (Tp Bool) Int (Tp (T5 Int Int (Option Int) Int (Option Int)))) × (T4 Int Int (Tp Int) (Tp Int)) × Unit => rnsM a.1 a.2.1) (fun a => StOk a.1 a.2.1)) := ok_runners T 
  have c_are_letters : Cal P w K mg base 2 "are_letters" ["thing", "letters"] (spF K (fun a : Dat × Int × Unit => ltD a.2.1 a.1) (fun a => a.1.items.length ≤ 1000000)) := ok_are_letters T c_is_below
  have c_is_state : Cal P w K mg base 3 "is_state" ["book", "thing"] (spF K (fun a : (T4 (Tp Bool) (Tp Bool) Int (Tp (T5 Int Int (Option Int) Int (Option Int)))) × Dat × Unit => stD a.1 a.2.1) (fun a => ∀ x ∈ a.2.1.items, x.items.length ≤ 1000000)) := ok_is_state T c_are_letters c_is_below
  have c_are_closed : Cal P w K mg base 4 "are_closed" ["book", "first", "things"] (spF K (fun a : (T4 (Tp Bool) (Tp Bool) Int (Tp (T5 Int Int (Option Int) Int (Option Int)))) × (T4 Int Int (Tp Int) (Tp Int)) × Dat × Unit => clD a.1 a.2.1 a.2.2.1) (fun a => BookOk a.1 ∧ a.2.2.1.items.length ≤ 1000 ∧ ∀ x ∈ a.2.2.1.items, ∀ y ∈ x.items, y.items.length ≤ 1000000)) := ok_are_closed T c_can_do c_comes_of c_is_state
  have c_last_behind : Cal P w K mg base 4 "last_behind" ["book", "thing"] (spF K (fun a : (T4 (Tp Bool) (Tp Bool) Int (Tp (T5 Int Int (Option Int) Int (Option Int)))) × Dat × Unit => lastB a.1 a.2.1) (fun a => BookOk a.1 ∧ a.2.1.items.length ≤ 2000)) := ok_last_behind T c_states_along
  have c_is_two_run : Cal P w K mg base 5 "is_two_run" ["book", "thing"] (spF K (fun a : (T4 (Tp Bool) (Tp Bool) Int (Tp (T5 Int Int (Option Int) Int (Option Int)))) × Dat × Unit => tworD a.1 a.2.1) (fun a => BookOk a.1 ∧ ThOk a.2.1)) := ok_is_two_run T c_are_closed c_last_behind c_runners
  have c_reached : CalX P w K mg base 3 "reached" ["book", "first", "limit"] (spX K Y (fun (a : (T4 (Tp Bool) (Tp Bool) Int (Tp (T5 Int Int (Option Int) Int (Option Int)))) × (T4 Int Int (Tp Int) (Tp Int)) × Int × Unit) => (rchM a.1 a.2.1 a.2.2.1 : XC ⊕ (List (T3 (T4 Int Int (Tp Int) (Tp Int)) (Option Int) (Option Int))))) (fun a => (BookOk a.1 ∧ StOk a.1 a.2.1) ∧ 1 ≤ a.2.2.1 ∧ a.2.2.1 ≤ 1000)) := ok_reached T c_can_do c_comes_of
  have c_steps_to : Cal P w K mg base 1 "steps_to" ["found", "at"] (spN K (fun a : (List (T3 (T4 Int Int (Tp Int) (Tp Int)) (Option Int) (Option Int))) × Int × Unit => stepsM a.1 a.2.1) (fun a => (∃ b : Book, RowsOk b firstS a.1) ∧ (0 ≤ a.2.1 ∧ a.2.1 < (a.1.length : Int)) ∧ a.1.length ≤ 1000)) := ok_steps_to T 
  have c_two_run : CalXD P w K mg base 4 "two_run" ["book", "limit"] "limit" (.int 200) (spXN K Y (fun (a : (T4 (Tp Bool) (Tp Bool) Int (Tp (T5 Int Int (Option Int) Int (Option Int)))) × Int × Unit) => (twoX a.1 a.2.1 : XC ⊕ (Str × (Sum (List Int) (List (T4 Int Int (Tp Int) (Tp Int))))))) (fun a => BookOk a.1 ∧ 1 ≤ a.2.1 ∧ a.2.1 ≤ 1000)) := ok_two_run T c_reached c_runners c_steps_to
  have c__law_stir : Cal P w K mg base 1 "_law_stir" ["cell", "k"] (spF K (fun a : Int × Int × Unit => stirM a.1 a.2.1) (fun a => 0 ≤ a.2.1 ∧ a.2.1 ≤ 1000)) := ok__law_stir T 
  have c__law_some : Cal P w K mg base 2 "_law_some" ["cell", "many"] (spF K (fun a : Int × Int × Unit => someB a.1 a.2.1) (fun a => 0 ≤ a.2.1 ∧ a.2.1 ≤ 1000)) := ok__law_some T c__law_stir
  have c__law_cell : Cal P w K mg base 1 "_law_cell" ["script", "k"] (spF K (fun a : Scr × Int × Unit => cellB a.1.l a.2.1) (fun a => 0 ≤ a.2.1 ∧ a.2.1 ≤ 1000)) := ok__law_cell T 
  have c__law_chain : Cal P w K mg base 1 "_law_chain" ["turns", "letters"] (spN K (fun a : Int × Int × Unit => chainM a.1 a.2.1) (fun a => 0 ≤ a.1 ∧ a.1 ≤ 100 ∧ 1 ≤ a.2.1 ∧ a.2.1 ≤ 100)) := ok__law_chain T 
  have c__law_rule : Cal P w K mg base 1 "_law_rule" ["some", "many", "letters"] (spF K (fun a : (List Int) × (Int × Int) × Int × Unit => ruleM a.1 a.2.1 a.2.2.1) (fun a => a.1.length = 9 ∧ (1 ≤ a.2.1.1 ∧ a.2.1.1 ≤ 100) ∧ (1 ≤ a.2.1.2 ∧ a.2.1.2 ≤ 100) ∧ 1 ≤ a.2.2.1 ∧ a.2.2.1 ≤ 100)) := ok__law_rule T 
  have c__law_book : Cal P w K mg base 3 "_law_book" ["script"] (spQ K (fun (a : Scr × Unit) (y : (T4 (Tp Bool) (Tp Bool) Int (Tp (T5 Int Int (Option Int) Int (Option Int))))) => BookOk y) (fun a => a.1.l.length ≤ 63)) := ok__law_book T c__law_cell c__law_chain c__law_rule c__law_some
  have c__law_can : Cal P w K mg base 1 "_law_can" ["state", "rule"] (spF K (fun a : (T4 Int Int (Tp Int) (Tp Int)) × (T5 Int Int (Option Int) Int (Option Int)) × Unit => canM a.1 a.2.1) (fun a => 0 ≤ a.2.1.a ∧ a.2.1.a < 2)) := ok__law_can T 
  have c__law_comes : Cal P w K mg base 1 "_law_comes" ["state", "rule"] (spF K (fun a : (T4 Int Int (Tp Int) (Tp Int)) × (T5 Int Int (Option Int) Int (Option Int)) × Unit => comesM a.1 a.2.1) (fun a => (0 ≤ a.2.1.a ∧ a.2.1.a < 2) ∧ (a.1.c.l.length ≤ 100 ∧ a.1.d.l.length ≤ 100))) := ok__law_comes T 
  have c__law_running : Cal P w K mg base 1 "_law_running" ["book", "state"] (spF K (fun a : (T4 (Tp Bool) (Tp Bool) Int (Tp (T5 Int Int (Option Int) Int (Option Int)))) × (T4 Int Int (Tp Int) (Tp Int)) × Unit => rnsM a.1 a.2.1) (fun a => StOk a.1 a.2.1)) := ok__law_running T 
  have c__law_all : Cal P w K mg base 2 "_law_all" ["book", "most"] (spF K (fun a : (T4 (Tp Bool) (Tp Bool) Int (Tp (T5 Int Int (Option Int) Int (Option Int)))) × Int × Unit => allM a.1 a.2.1) (fun a => BookOk a.1 ∧ 0 ≤ a.2.1 ∧ a.2.1 ≤ 800)) := ok__law_all T c__law_can c__law_comes
  have c__law_along : Cal P w K mg base 2 "_law_along" ["book", "steps"] (spF K (fun a : (T4 (Tp Bool) (Tp Bool) Int (Tp (T5 Int Int (Option Int) Int (Option Int)))) × (List Dat) × Unit => alongM a.1 a.2.1) (fun a => BookOk a.1 ∧ a.2.1.length ≤ 2000)) := ok__law_along T c__law_can c__law_comes
  have c__law_walk : Cal P w K mg base 2 "_law_walk" ["book", "some"] (spQ K (fun (a : (T4 (Tp Bool) (Tp Bool) Int (Tp (T5 Int Int (Option Int) Int (Option Int)))) × (List Int) × Unit) (y : (List Int)) => y.length ≤ a.2.1.length ∧ ∀ x ∈ y, 0 ≤ x ∧ x < ((a.1.d.l.length : Nat) : Int)) (fun a => BookOk a.1 ∧ a.2.1.length ≤ 100)) := ok__law_walk T c__law_can c__law_comes
  have c__law_whole : Cal P w K mg base 1 "_law_whole" ["thing"] (spF K (fun a : Dat × Unit => whD a.1) (fun a => True)) := ok__law_whole T 
  have c__law_is_letters : Cal P w K mg base 2 "_law_is_letters" ["book", "thing"] (spF K (fun a : (T4 (Tp Bool) (Tp Bool) Int (Tp (T5 Int Int (Option Int) Int (Option Int)))) × Dat × Unit => ltD a.1.c a.2.1) (fun a => True)) := ok__law_is_letters T c__law_whole
  have c__law_is_state : Cal P w K mg base 3 "_law_is_state" ["book", "thing"] (spF K (fun a : (T4 (Tp Bool) (Tp Bool) Int (Tp (T5 Int Int (Option Int) Int (Option Int)))) × Dat × Unit => stD a.1 a.2.1) (fun a => True)) := ok__law_is_state T c__law_is_letters c__law_whole
  have c__law_closed : Cal P w K mg base 4 "_law_closed" ["book", "first", "things"] (spF K (fun a : (T4 (Tp Bool) (Tp Bool) Int (Tp (T5 Int Int (Option Int) Int (Option Int)))) × (T4 Int Int (Tp Int) (Tp Int)) × Dat × Unit => clD a.1 a.2.1 a.2.2.1) (fun a => BookOk a.1 ∧ (a.2.2.1.isL = true → a.2.2.1.items.length ≤ 1000))) := ok__law_closed T c__law_can c__law_comes c__law_is_state
  have c__law_due : Cal P w K mg base 5 "_law_due" ["book", "thing"] (spF K (fun a : (T4 (Tp Bool) (Tp Bool) Int (Tp (T5 Int Int (Option Int) Int (Option Int)))) × Dat × Unit => tworD a.1 a.2.1) (fun a => BookOk a.1 ∧ ThOk a.2.1)) := ok__law_due T c__law_along c__law_closed c__law_running
  have c__law_letters : Cal P w K mg base 2 "_law_letters" ["book", "one"] (spF K (fun a : (T4 (Tp Bool) (Tp Bool) Int (Tp (T5 Int Int (Option Int) Int (Option Int)))) × Int × Unit => letsM a.1 a.2.1) (fun a => BookOk a.1)) := ok__law_letters T c__law_stir
  have c__law_start : Cal P w K mg base 3 "_law_start" ["book", "found", "some"] (spF K (fun a : (T4 (Tp Bool) (Tp Bool) Int (Tp (T5 Int Int (Option Int) Int (Option Int)))) × (List (T4 Int Int (Tp Int) (Tp Int))) × (List Int) × Unit => startM a.1 a.2.1 a.2.2.1) (fun a => BookOk a.1 ∧ (∀ s ∈ a.2.1, StOk a.1 s) ∧ a.2.1 ≠ [] ∧ 5 ≤ a.2.2.1.length)) := ok__law_start T c__law_letters
  have c__law_gone_on : Cal P w K mg base 2 "_law_gone_on" ["book", "starts", "most"] (spQ K (fun (a : (T4 (Tp Bool) (Tp Bool) Int (Tp (T5 Int Int (Option Int) Int (Option Int)))) × (List (T4 Int Int (Tp Int) (Tp Int))) × Int × Unit) (y : (List (T4 Int Int (Tp Int) (Tp Int)))) => (∀ s ∈ y, StOk a.1 s) ∧ y.length ≤ 120) (fun a => BookOk a.1 ∧ (∀ s ∈ a.2.1, StOk a.1 s) ∧ a.2.1.length ≤ 100 ∧ 0 ≤ a.2.2.1 ∧ a.2.2.1 ≤ 120)) := ok__law_gone_on T c__law_can c__law_comes
  have c__law_held : CalG P w K mg base 6 "_law_held" ["book", "thing"] (spF K (fun a : (T4 (Tp Bool) (Tp Bool) Int (Tp (T5 Int Int (Option Int) Int (Option Int)))) × Dat × Unit => true) (fun a => BookOk a.1 ∧ ThOk a.2.1 ∧ ShOk a.2.1)) := ok__law_held T c__law_due c_is_two_run
  have c__law_bent_state : Cal P w K mg base 1 "_law_bent_state" ["book", "state", "some"] (spQ K (fun (a : (T4 (Tp Bool) (Tp Bool) Int (Tp (T5 Int Int (Option Int) Int (Option Int)))) × (T4 Int Int (Tp Int) (Tp Int)) × (List Int) × Unit) (y : Dat) => DSz 4 5000 y) (fun a => BookOk a.1 ∧ StOk a.1 a.2.1 ∧ 5 ≤ a.2.2.1.length)) := ok__law_bent_state T 
  have c__law_bent : Cal P w K mg base 2 "_law_bent" ["book", "thing", "some"] (spQ K (fun (a : (T4 (Tp Bool) (Tp Bool) Int (Tp (T5 Int Int (Option Int) Int (Option Int)))) × Dat × (List Int) × Unit) (y : Dat) => BentOk y) (fun a => BookOk a.1 ∧ TwT a.1 a.2.1 ∧ 5 ≤ a.2.2.1.length)) := ok__law_bent T c__law_bent_state
  have c__law_odd_right : Cal P w K mg base 6 "_law_odd_right" ["book", "far"] (spF K (fun a : (T4 (Tp Bool) (Tp Bool) Int (Tp (T5 Int Int (Option Int) Int (Option Int)))) × Bool × Unit => true) (fun a => BookOk a.1)) := ok__law_odd_right T c_is_two_run
  exact ok_law T F c__law_all c__law_bent c__law_book c__law_cell c__law_gone_on c__law_held c__law_odd_right c__law_some c__law_start c__law_walk c_is_two_run c_two_run
end
set_option maxHeartbeats 4000000 in
theorem all_mk {l : PySem.W.OpenLaw} {w : World} {K : Fg} {h : Heap} {mg : Str → Option Value} {fa f0 f1 f2 f3 f4 f5 f6 f7 f8 f9 f10 f11 f12 f13 f14 f15 f16 f17 f18 f19 f20 f21 f22 f23 f24 f25 f26 f27 f28 f29 f30 f31 f32 f33 f34 f35 f36 f37 f38 : Addr} (X : K.In h) (G : h.Ns mainGlobals mg) (hfa : mg "law" = some (.ref fa))
    {od0 an0 : Option Addr} {sl0 : Array (Option Value)} {oc0 kV0 dc0 pm0 cd0 ct0 : Value}
    (a0 : PySem.W.nsIn K mainGlobals "is_below" = some (some (.ref f0))) (l0 : K.lookup f0 = some ⟨oc0, od0, .func (PySem.W.fnOf "is_below" "is_below" (defArgs s_is_below) (defBody s_is_below) (defScope s_is_below) .none kV0 dc0 pm0 an0 cd0 ct0), sl0⟩) (c0 : PySem.W.codeIn K cd0 "is_below" = true) (k0 : PySem.W.keepIn K (.ref f0) = true)
    {od1 an1 : Option Addr} {sl1 : Array (Option Value)} {oc1 kV1 dc1 pm1 cd1 ct1 : Value}
    (a1 : PySem.W.nsIn K mainGlobals "can_do" = some (some (.ref f1))) (l1 : K.lookup f1 = some ⟨oc1, od1, .func (PySem.W.fnOf "can_do" "can_do" (defArgs s_can_do) (defBody s_can_do) (defScope s_can_do) .none kV1 dc1 pm1 an1 cd1 ct1), sl1⟩) (c1 : PySem.W.codeIn K cd1 "can_do" = true) (k1 : PySem.W.keepIn K (.ref f1) = true)
    {od2 an2 : Option Addr} {sl2 : Array (Option Value)} {oc2 kV2 dc2 pm2 cd2 ct2 : Value}
    (a2 : PySem.W.nsIn K mainGlobals "with_letter" = some (some (.ref f2))) (l2 : K.lookup f2 = some ⟨oc2, od2, .func (PySem.W.fnOf "with_letter" "with_letter" (defArgs s_with_letter) (defBody s_with_letter) (defScope s_with_letter) .none kV2 dc2 pm2 an2 cd2 ct2), sl2⟩) (c2 : PySem.W.codeIn K cd2 "with_letter" = true) (k2 : PySem.W.keepIn K (.ref f2) = true)
    {od3 an3 : Option Addr} {sl3 : Array (Option Value)} {oc3 kV3 dc3 pm3 cd3 ct3 : Value}
    (a3 : PySem.W.nsIn K mainGlobals "comes_of" = some (some (.ref f3))) (l3 : K.lookup f3 = some ⟨oc3, od3, .func (PySem.W.fnOf "comes_of" "comes_of" (defArgs s_comes_of) (defBody s_comes_of) (defScope s_comes_of) .none kV3 dc3 pm3 an3 cd3 ct3), sl3⟩) (c3 : PySem.W.codeIn K cd3 "comes_of" = true) (k3 : PySem.W.keepIn K (.ref f3) = true)
    {od4 an4 : Option Addr} {sl4 : Array (Option Value)} {oc4 kV4 dc4 pm4 cd4 ct4 : Value}
    (a4 : PySem.W.nsIn K mainGlobals "states_along" = some (some (.ref f4))) (l4 : K.lookup f4 = some ⟨oc4, od4, .func (PySem.W.fnOf "states_along" "states_along" (defArgs s_states_along) (defBody s_states_along) (defScope s_states_along) .none kV4 dc4 pm4 an4 cd4 ct4), sl4⟩) (c4 : PySem.W.codeIn K cd4 "states_along" = true) (k4 : PySem.W.keepIn K (.ref f4) = true)
    {od5 an5 : Option Addr} {sl5 : Array (Option Value)} {oc5 kV5 dc5 pm5 cd5 ct5 : Value}
    (a5 : PySem.W.nsIn K mainGlobals "runners" = some (some (.ref f5))) (l5 : K.lookup f5 = some ⟨oc5, od5, .func (PySem.W.fnOf "runners" "runners" (defArgs s_runners) (defBody s_runners) (defScope s_runners) .none kV5 dc5 pm5 an5 cd5 ct5), sl5⟩) (c5 : PySem.W.codeIn K cd5 "runners" = true) (k5 : PySem.W.keepIn K (.ref f5) = true)
    {od6 an6 : Option Addr} {sl6 : Array (Option Value)} {oc6 kV6 dc6 pm6 cd6 ct6 : Value}
    (a6 : PySem.W.nsIn K mainGlobals "reached" = some (some (.ref f6))) (l6 : K.lookup f6 = some ⟨oc6, od6, .func (PySem.W.fnOf "reached" "reached" (defArgs s_reached) (defBody s_reached) (defScope s_reached) .none kV6 dc6 pm6 an6 cd6 ct6), sl6⟩) (c6 : PySem.W.codeIn K cd6 "reached" = true) (k6 : PySem.W.keepIn K (.ref f6) = true)
    {od7 an7 : Option Addr} {sl7 : Array (Option Value)} {oc7 kV7 dc7 pm7 cd7 ct7 : Value}
    (a7 : PySem.W.nsIn K mainGlobals "steps_to" = some (some (.ref f7))) (l7 : K.lookup f7 = some ⟨oc7, od7, .func (PySem.W.fnOf "steps_to" "steps_to" (defArgs s_steps_to) (defBody s_steps_to) (defScope s_steps_to) .none kV7 dc7 pm7 an7 cd7 ct7), sl7⟩) (c7 : PySem.W.codeIn K cd7 "steps_to" = true) (k7 : PySem.W.keepIn K (.ref f7) = true)
    {od8 an8 : Option Addr} {sl8 : Array (Option Value)} {oc8 kV8 dc8 pm8 cd8 ct8 : Value}
    {dT8 : Addr} {dt8 : Tok} {dm8 : Nat} {dc_8 : Value} {dod8 : Option Addr} {dsl8 : Array (Option Value)}
    (a8 : PySem.W.nsIn K mainGlobals "two_run" = some (some (.ref f8))) (l8 : K.lookup f8 = some ⟨oc8, od8, .func (PySem.W.fnOf "two_run" "two_run" (defArgs s_two_run) (defBody s_two_run) (defScope s_two_run) (.ref dT8) kV8 dc8 pm8 an8 cd8 ct8), sl8⟩) (c8 : PySem.W.codeIn K cd8 "two_run" = true) (k8 : PySem.W.keepIn K (.ref f8) = true)
    (lT8 : K.lookup dT8 = some ⟨dc_8, dod8, .seq #[.int 200 dt8] dm8, dsl8⟩)
    {od9 an9 : Option Addr} {sl9 : Array (Option Value)} {oc9 kV9 dc9 pm9 cd9 ct9 : Value}
    (a9 : PySem.W.nsIn K mainGlobals "are_letters" = some (some (.ref f9))) (l9 : K.lookup f9 = some ⟨oc9, od9, .func (PySem.W.fnOf "are_letters" "are_letters" (defArgs s_are_letters) (defBody s_are_letters) (defScope s_are_letters) .none kV9 dc9 pm9 an9 cd9 ct9), sl9⟩) (c9 : PySem.W.codeIn K cd9 "are_letters" = true) (k9 : PySem.W.keepIn K (.ref f9) = true)
    {od10 an10 : Option Addr} {sl10 : Array (Option Value)} {oc10 kV10 dc10 pm10 cd10 ct10 : Value}
    (a10 : PySem.W.nsIn K mainGlobals "is_state" = some (some (.ref f10))) (l10 : K.lookup f10 = some ⟨oc10, od10, .func (PySem.W.fnOf "is_state" "is_state" (defArgs s_is_state) (defBody s_is_state) (defScope s_is_state) .none kV10 dc10 pm10 an10 cd10 ct10), sl10⟩) (c10 : PySem.W.codeIn K cd10 "is_state" = true) (k10 : PySem.W.keepIn K (.ref f10) = true)
    {od11 an11 : Option Addr} {sl11 : Array (Option Value)} {oc11 kV11 dc11 pm11 cd11 ct11 : Value}
    (a11 : PySem.W.nsIn K mainGlobals "are_closed" = some (some (.ref f11))) (l11 : K.lookup f11 = some ⟨oc11, od11, .func (PySem.W.fnOf "are_closed" "are_closed" (defArgs s_are_closed) (defBody s_are_closed) (defScope s_are_closed) .none kV11 dc11 pm11 an11 cd11 ct11), sl11⟩) (c11 : PySem.W.codeIn K cd11 "are_closed" = true) (k11 : PySem.W.keepIn K (.ref f11) = true)
    {od12 an12 : Option Addr} {sl12 : Array (Option Value)} {oc12 kV12 dc12 pm12 cd12 ct12 : Value}
    (a12 : PySem.W.nsIn K mainGlobals "last_behind" = some (some (.ref f12))) (l12 : K.lookup f12 = some ⟨oc12, od12, .func (PySem.W.fnOf "last_behind" "last_behind" (defArgs s_last_behind) (defBody s_last_behind) (defScope s_last_behind) .none kV12 dc12 pm12 an12 cd12 ct12), sl12⟩) (c12 : PySem.W.codeIn K cd12 "last_behind" = true) (k12 : PySem.W.keepIn K (.ref f12) = true)
    {od13 an13 : Option Addr} {sl13 : Array (Option Value)} {oc13 kV13 dc13 pm13 cd13 ct13 : Value}
    (a13 : PySem.W.nsIn K mainGlobals "is_two_run" = some (some (.ref f13))) (l13 : K.lookup f13 = some ⟨oc13, od13, .func (PySem.W.fnOf "is_two_run" "is_two_run" (defArgs s_is_two_run) (defBody s_is_two_run) (defScope s_is_two_run) .none kV13 dc13 pm13 an13 cd13 ct13), sl13⟩) (c13 : PySem.W.codeIn K cd13 "is_two_run" = true) (k13 : PySem.W.keepIn K (.ref f13) = true)
    {od14 an14 : Option Addr} {sl14 : Array (Option Value)} {oc14 kV14 dc14 pm14 cd14 ct14 : Value}
    (a14 : PySem.W.nsIn K mainGlobals "_law_stir" = some (some (.ref f14))) (l14 : K.lookup f14 = some ⟨oc14, od14, .func (PySem.W.fnOf "_law_stir" "_law_stir" (defArgs s__law_stir) (defBody s__law_stir) (defScope s__law_stir) .none kV14 dc14 pm14 an14 cd14 ct14), sl14⟩) (c14 : PySem.W.codeIn K cd14 "_law_stir" = true) (k14 : PySem.W.keepIn K (.ref f14) = true)
    {od15 an15 : Option Addr} {sl15 : Array (Option Value)} {oc15 kV15 dc15 pm15 cd15 ct15 : Value}
    (a15 : PySem.W.nsIn K mainGlobals "_law_some" = some (some (.ref f15))) (l15 : K.lookup f15 = some ⟨oc15, od15, .func (PySem.W.fnOf "_law_some" "_law_some" (defArgs s__law_some) (defBody s__law_some) (defScope s__law_some) .none kV15 dc15 pm15 an15 cd15 ct15), sl15⟩) (c15 : PySem.W.codeIn K cd15 "_law_some" = true) (k15 : PySem.W.keepIn K (.ref f15) = true)
    {od16 an16 : Option Addr} {sl16 : Array (Option Value)} {oc16 kV16 dc16 pm16 cd16 ct16 : Value}
    (a16 : PySem.W.nsIn K mainGlobals "_law_cell" = some (some (.ref f16))) (l16 : K.lookup f16 = some ⟨oc16, od16, .func (PySem.W.fnOf "_law_cell" "_law_cell" (defArgs s__law_cell) (defBody s__law_cell) (defScope s__law_cell) .none kV16 dc16 pm16 an16 cd16 ct16), sl16⟩) (c16 : PySem.W.codeIn K cd16 "_law_cell" = true) (k16 : PySem.W.keepIn K (.ref f16) = true)
    {od17 an17 : Option Addr} {sl17 : Array (Option Value)} {oc17 kV17 dc17 pm17 cd17 ct17 : Value}
    (a17 : PySem.W.nsIn K mainGlobals "_law_chain" = some (some (.ref f17))) (l17 : K.lookup f17 = some ⟨oc17, od17, .func (PySem.W.fnOf "_law_chain" "_law_chain" (defArgs s__law_chain) (defBody s__law_chain) (defScope s__law_chain) .none kV17 dc17 pm17 an17 cd17 ct17), sl17⟩) (c17 : PySem.W.codeIn K cd17 "_law_chain" = true) (k17 : PySem.W.keepIn K (.ref f17) = true)
    {od18 an18 : Option Addr} {sl18 : Array (Option Value)} {oc18 kV18 dc18 pm18 cd18 ct18 : Value}
    (a18 : PySem.W.nsIn K mainGlobals "_law_rule" = some (some (.ref f18))) (l18 : K.lookup f18 = some ⟨oc18, od18, .func (PySem.W.fnOf "_law_rule" "_law_rule" (defArgs s__law_rule) (defBody s__law_rule) (defScope s__law_rule) .none kV18 dc18 pm18 an18 cd18 ct18), sl18⟩) (c18 : PySem.W.codeIn K cd18 "_law_rule" = true) (k18 : PySem.W.keepIn K (.ref f18) = true)
    {od19 an19 : Option Addr} {sl19 : Array (Option Value)} {oc19 kV19 dc19 pm19 cd19 ct19 : Value}
    (a19 : PySem.W.nsIn K mainGlobals "_law_book" = some (some (.ref f19))) (l19 : K.lookup f19 = some ⟨oc19, od19, .func (PySem.W.fnOf "_law_book" "_law_book" (defArgs s__law_book) (defBody s__law_book) (defScope s__law_book) .none kV19 dc19 pm19 an19 cd19 ct19), sl19⟩) (c19 : PySem.W.codeIn K cd19 "_law_book" = true) (k19 : PySem.W.keepIn K (.ref f19) = true)
    {od20 an20 : Option Addr} {sl20 : Array (Option Value)} {oc20 kV20 dc20 pm20 cd20 ct20 : Value}
    (a20 : PySem.W.nsIn K mainGlobals "_law_can" = some (some (.ref f20))) (l20 : K.lookup f20 = some ⟨oc20, od20, .func (PySem.W.fnOf "_law_can" "_law_can" (defArgs s__law_can) (defBody s__law_can) (defScope s__law_can) .none kV20 dc20 pm20 an20 cd20 ct20), sl20⟩) (c20 : PySem.W.codeIn K cd20 "_law_can" = true) (k20 : PySem.W.keepIn K (.ref f20) = true)
    {od21 an21 : Option Addr} {sl21 : Array (Option Value)} {oc21 kV21 dc21 pm21 cd21 ct21 : Value}
    (a21 : PySem.W.nsIn K mainGlobals "_law_comes" = some (some (.ref f21))) (l21 : K.lookup f21 = some ⟨oc21, od21, .func (PySem.W.fnOf "_law_comes" "_law_comes" (defArgs s__law_comes) (defBody s__law_comes) (defScope s__law_comes) .none kV21 dc21 pm21 an21 cd21 ct21), sl21⟩) (c21 : PySem.W.codeIn K cd21 "_law_comes" = true) (k21 : PySem.W.keepIn K (.ref f21) = true)
    {od22 an22 : Option Addr} {sl22 : Array (Option Value)} {oc22 kV22 dc22 pm22 cd22 ct22 : Value}
    (a22 : PySem.W.nsIn K mainGlobals "_law_running" = some (some (.ref f22))) (l22 : K.lookup f22 = some ⟨oc22, od22, .func (PySem.W.fnOf "_law_running" "_law_running" (defArgs s__law_running) (defBody s__law_running) (defScope s__law_running) .none kV22 dc22 pm22 an22 cd22 ct22), sl22⟩) (c22 : PySem.W.codeIn K cd22 "_law_running" = true) (k22 : PySem.W.keepIn K (.ref f22) = true)
    {od23 an23 : Option Addr} {sl23 : Array (Option Value)} {oc23 kV23 dc23 pm23 cd23 ct23 : Value}
    (a23 : PySem.W.nsIn K mainGlobals "_law_all" = some (some (.ref f23))) (l23 : K.lookup f23 = some ⟨oc23, od23, .func (PySem.W.fnOf "_law_all" "_law_all" (defArgs s__law_all) (defBody s__law_all) (defScope s__law_all) .none kV23 dc23 pm23 an23 cd23 ct23), sl23⟩) (c23 : PySem.W.codeIn K cd23 "_law_all" = true) (k23 : PySem.W.keepIn K (.ref f23) = true)
    {od24 an24 : Option Addr} {sl24 : Array (Option Value)} {oc24 kV24 dc24 pm24 cd24 ct24 : Value}
    (a24 : PySem.W.nsIn K mainGlobals "_law_along" = some (some (.ref f24))) (l24 : K.lookup f24 = some ⟨oc24, od24, .func (PySem.W.fnOf "_law_along" "_law_along" (defArgs s__law_along) (defBody s__law_along) (defScope s__law_along) .none kV24 dc24 pm24 an24 cd24 ct24), sl24⟩) (c24 : PySem.W.codeIn K cd24 "_law_along" = true) (k24 : PySem.W.keepIn K (.ref f24) = true)
    {od25 an25 : Option Addr} {sl25 : Array (Option Value)} {oc25 kV25 dc25 pm25 cd25 ct25 : Value}
    (a25 : PySem.W.nsIn K mainGlobals "_law_walk" = some (some (.ref f25))) (l25 : K.lookup f25 = some ⟨oc25, od25, .func (PySem.W.fnOf "_law_walk" "_law_walk" (defArgs s__law_walk) (defBody s__law_walk) (defScope s__law_walk) .none kV25 dc25 pm25 an25 cd25 ct25), sl25⟩) (c25 : PySem.W.codeIn K cd25 "_law_walk" = true) (k25 : PySem.W.keepIn K (.ref f25) = true)
    {od26 an26 : Option Addr} {sl26 : Array (Option Value)} {oc26 kV26 dc26 pm26 cd26 ct26 : Value}
    (a26 : PySem.W.nsIn K mainGlobals "_law_whole" = some (some (.ref f26))) (l26 : K.lookup f26 = some ⟨oc26, od26, .func (PySem.W.fnOf "_law_whole" "_law_whole" (defArgs s__law_whole) (defBody s__law_whole) (defScope s__law_whole) .none kV26 dc26 pm26 an26 cd26 ct26), sl26⟩) (c26 : PySem.W.codeIn K cd26 "_law_whole" = true) (k26 : PySem.W.keepIn K (.ref f26) = true)
    {od27 an27 : Option Addr} {sl27 : Array (Option Value)} {oc27 kV27 dc27 pm27 cd27 ct27 : Value}
    (a27 : PySem.W.nsIn K mainGlobals "_law_is_letters" = some (some (.ref f27))) (l27 : K.lookup f27 = some ⟨oc27, od27, .func (PySem.W.fnOf "_law_is_letters" "_law_is_letters" (defArgs s__law_is_letters) (defBody s__law_is_letters) (defScope s__law_is_letters) .none kV27 dc27 pm27 an27 cd27 ct27), sl27⟩) (c27 : PySem.W.codeIn K cd27 "_law_is_letters" = true) (k27 : PySem.W.keepIn K (.ref f27) = true)
    {od28 an28 : Option Addr} {sl28 : Array (Option Value)} {oc28 kV28 dc28 pm28 cd28 ct28 : Value}
    (a28 : PySem.W.nsIn K mainGlobals "_law_is_state" = some (some (.ref f28))) (l28 : K.lookup f28 = some ⟨oc28, od28, .func (PySem.W.fnOf "_law_is_state" "_law_is_state" (defArgs s__law_is_state) (defBody s__law_is_state) (defScope s__law_is_state) .none kV28 dc28 pm28 an28 cd28 ct28), sl28⟩) (c28 : PySem.W.codeIn K cd28 "_law_is_state" = true) (k28 : PySem.W.keepIn K (.ref f28) = true)
    {od29 an29 : Option Addr} {sl29 : Array (Option Value)} {oc29 kV29 dc29 pm29 cd29 ct29 : Value}
    (a29 : PySem.W.nsIn K mainGlobals "_law_closed" = some (some (.ref f29))) (l29 : K.lookup f29 = some ⟨oc29, od29, .func (PySem.W.fnOf "_law_closed" "_law_closed" (defArgs s__law_closed) (defBody s__law_closed) (defScope s__law_closed) .none kV29 dc29 pm29 an29 cd29 ct29), sl29⟩) (c29 : PySem.W.codeIn K cd29 "_law_closed" = true) (k29 : PySem.W.keepIn K (.ref f29) = true)
    {od30 an30 : Option Addr} {sl30 : Array (Option Value)} {oc30 kV30 dc30 pm30 cd30 ct30 : Value}
    (a30 : PySem.W.nsIn K mainGlobals "_law_due" = some (some (.ref f30))) (l30 : K.lookup f30 = some ⟨oc30, od30, .func (PySem.W.fnOf "_law_due" "_law_due" (defArgs s__law_due) (defBody s__law_due) (defScope s__law_due) .none kV30 dc30 pm30 an30 cd30 ct30), sl30⟩) (c30 : PySem.W.codeIn K cd30 "_law_due" = true) (k30 : PySem.W.keepIn K (.ref f30) = true)
    {od31 an31 : Option Addr} {sl31 : Array (Option Value)} {oc31 kV31 dc31 pm31 cd31 ct31 : Value}
    (a31 : PySem.W.nsIn K mainGlobals "_law_bent_state" = some (some (.ref f31))) (l31 : K.lookup f31 = some ⟨oc31, od31, .func (PySem.W.fnOf "_law_bent_state" "_law_bent_state" (defArgs s__law_bent_state) (defBody s__law_bent_state) (defScope s__law_bent_state) .none kV31 dc31 pm31 an31 cd31 ct31), sl31⟩) (c31 : PySem.W.codeIn K cd31 "_law_bent_state" = true) (k31 : PySem.W.keepIn K (.ref f31) = true)
    {od32 an32 : Option Addr} {sl32 : Array (Option Value)} {oc32 kV32 dc32 pm32 cd32 ct32 : Value}
    (a32 : PySem.W.nsIn K mainGlobals "_law_bent" = some (some (.ref f32))) (l32 : K.lookup f32 = some ⟨oc32, od32, .func (PySem.W.fnOf "_law_bent" "_law_bent" (defArgs s__law_bent) (defBody s__law_bent) (defScope s__law_bent) .none kV32 dc32 pm32 an32 cd32 ct32), sl32⟩) (c32 : PySem.W.codeIn K cd32 "_law_bent" = true) (k32 : PySem.W.keepIn K (.ref f32) = true)
    {od33 an33 : Option Addr} {sl33 : Array (Option Value)} {oc33 kV33 dc33 pm33 cd33 ct33 : Value}
    (a33 : PySem.W.nsIn K mainGlobals "_law_gone_on" = some (some (.ref f33))) (l33 : K.lookup f33 = some ⟨oc33, od33, .func (PySem.W.fnOf "_law_gone_on" "_law_gone_on" (defArgs s__law_gone_on) (defBody s__law_gone_on) (defScope s__law_gone_on) .none kV33 dc33 pm33 an33 cd33 ct33), sl33⟩) (c33 : PySem.W.codeIn K cd33 "_law_gone_on" = true) (k33 : PySem.W.keepIn K (.ref f33) = true)
    {od34 an34 : Option Addr} {sl34 : Array (Option Value)} {oc34 kV34 dc34 pm34 cd34 ct34 : Value}
    (a34 : PySem.W.nsIn K mainGlobals "_law_letters" = some (some (.ref f34))) (l34 : K.lookup f34 = some ⟨oc34, od34, .func (PySem.W.fnOf "_law_letters" "_law_letters" (defArgs s__law_letters) (defBody s__law_letters) (defScope s__law_letters) .none kV34 dc34 pm34 an34 cd34 ct34), sl34⟩) (c34 : PySem.W.codeIn K cd34 "_law_letters" = true) (k34 : PySem.W.keepIn K (.ref f34) = true)
    {od35 an35 : Option Addr} {sl35 : Array (Option Value)} {oc35 kV35 dc35 pm35 cd35 ct35 : Value}
    (a35 : PySem.W.nsIn K mainGlobals "_law_start" = some (some (.ref f35))) (l35 : K.lookup f35 = some ⟨oc35, od35, .func (PySem.W.fnOf "_law_start" "_law_start" (defArgs s__law_start) (defBody s__law_start) (defScope s__law_start) .none kV35 dc35 pm35 an35 cd35 ct35), sl35⟩) (c35 : PySem.W.codeIn K cd35 "_law_start" = true) (k35 : PySem.W.keepIn K (.ref f35) = true)
    {od36 an36 : Option Addr} {sl36 : Array (Option Value)} {oc36 kV36 dc36 pm36 cd36 ct36 : Value}
    (a36 : PySem.W.nsIn K mainGlobals "_law_held" = some (some (.ref f36))) (l36 : K.lookup f36 = some ⟨oc36, od36, .func (PySem.W.fnOf "_law_held" "_law_held" (defArgs s__law_held) (defBody s__law_held) (defScope s__law_held) .none kV36 dc36 pm36 an36 cd36 ct36), sl36⟩) (c36 : PySem.W.codeIn K cd36 "_law_held" = true) (k36 : PySem.W.keepIn K (.ref f36) = true)
    {od37 an37 : Option Addr} {sl37 : Array (Option Value)} {oc37 kV37 dc37 pm37 cd37 ct37 : Value}
    (a37 : PySem.W.nsIn K mainGlobals "_law_odd_right" = some (some (.ref f37))) (l37 : K.lookup f37 = some ⟨oc37, od37, .func (PySem.W.fnOf "_law_odd_right" "_law_odd_right" (defArgs s__law_odd_right) (defBody s__law_odd_right) (defScope s__law_odd_right) .none kV37 dc37 pm37 an37 cd37 ct37), sl37⟩) (c37 : PySem.W.codeIn K cd37 "_law_odd_right" = true) (k37 : PySem.W.keepIn K (.ref f37) = true)
    {od38 an38 : Option Addr} {sl38 : Array (Option Value)} {oc38 kV38 dc38 pm38 cd38 ct38 : Value}
    (a38 : PySem.W.nsIn K mainGlobals "law" = some (some (.ref f38))) (l38 : K.lookup f38 = some ⟨oc38, od38, .func (PySem.W.fnOf "law" "law" (defArgs s_law) (defBody s_law) (defScope s_law) .none kV38 dc38 pm38 an38 cd38 ct38), sl38⟩) (c38 : PySem.W.codeIn K cd38 "law" = true) (k38 : PySem.W.keepIn K (.ref f38) = true)
    {q_tooMany : Addr}
    (xn_tooMany : PySem.W.nsIn K mainGlobals "TooMany" = some (some (.ref q_tooMany))) (xt_tooMany : PySem.W.typeIn K (.ref q_tooMany) = some (.type "type")) (xb_tooMany : PySem.W.subIn K (.ref q_tooMany) (.type "BaseException") = some true) (xd_tooMany : PySem.W.hasDictIn K q_tooMany = true)
    (xx_tooMany : PySem.W.excIn K q_tooMany [.type "ValueError", .type "Exception", .type "BaseException", .type "object"] "ValueError.__new__" = true) (xk_tooMany : PySem.W.keepIn K (.ref q_tooMany) = true) (xg_tooMany : PySem.W.findIn K (.ref q_tooMany) "__getattribute__" = some (some (.builtin "BaseException.__getattribute__"))) (xh_tooMany : PySem.W.findIn K (.ref q_tooMany) "__getattr__" = some none) (xl_tooMany : PySem.W.findIn K (.ref q_tooMany) "__class__" = some (some (.builtin "object.__class__"))) (xm_tooMany : PySem.W.mroIn K q_tooMany (.type "object") = some true)
    (xsp : PySem.W.specialIn K (.builtin "object.__class__") "__get__" = some (some (.builtin "getset_descriptor.__get__"))) (xtk : PySem.W.takesIn K (.builtin "object.__class__") = some true)
    (z0 : PySem.W.nsIn K mainGlobals "abs" = some none)
    (z1 : PySem.W.nsIn K mainGlobals "all" = some none)
    (z2 : PySem.W.nsIn K mainGlobals "bool" = some none)
    (z3 : PySem.W.nsIn K mainGlobals "enumerate" = some none)
    (z4 : PySem.W.nsIn K mainGlobals "int" = some none)
    (z5 : PySem.W.nsIn K mainGlobals "isinstance" = some none)
    (z6 : PySem.W.nsIn K mainGlobals "len" = some none)
    (z7 : PySem.W.nsIn K mainGlobals "list" = some none)
    (z8 : PySem.W.nsIn K mainGlobals "range" = some none)
    (z9 : PySem.W.nsIn K mainGlobals "repr" = some none)
    (z10 : PySem.W.nsIn K mainGlobals "reversed" = some none)
    (z11 : PySem.W.nsIn K mainGlobals "set" = some none)
    (z12 : PySem.W.nsIn K mainGlobals "sorted" = some none)
    (z13 : PySem.W.nsIn K mainGlobals "tuple" = some none)
    {ft1 ft2 : Tok} {fta fte ftf : Addr} {fd1 fd2 fd3 : Option Addr} {fl1 fl2 fl3 : Array (Option Value)} {fn1 fn2 fn3 : Nat} (gc_FIRST : PySem.W.nsIn K mainGlobals "FIRST" = some (some (.ref fta))) (gta : K.lookup fta = some ⟨.type "tuple", fd1, .seq #[.int 0 ft1, .int 0 ft2, .ref fte, .ref ftf] fn1, fl1⟩) (gte : K.lookup fte = some ⟨.type "tuple", fd2, .seq #[] fn2, fl2⟩) (gtf : K.lookup ftf = some ⟨.type "tuple", fd3, .seq #[] fn3, fl3⟩)
    : ∃ fd : FuncData, (∀ (s : Shared) (v : Value), BindsTo s fd ⟨[v], []⟩ [("script", v)]) ∧ ∀ base : Heap, K.In base → base.Ns mainGlobals mg → FnOkG l.prog w K mg base 7 fa fd ["script"] (spLaw K) := by
  have T : Tx K mg (xY q_tooMany 0 0 0 0 0 0) := ⟨def_mk X G a0 l0 c0 k0 (fun _ _ _ _ _ _ us hl => match us, hl with | [_, _], _ => rfl), def_mk X G a1 l1 c1 k1 (fun _ _ _ _ _ _ us hl => match us, hl with | [_, _], _ => rfl), def_mk X G a2 l2 c2 k2 (fun _ _ _ _ _ _ us hl => match us, hl with | [_, _], _ => rfl), def_mk X G a3 l3 c3 k3 (fun _ _ _ _ _ _ us hl => match us, hl with | [_, _], _ => rfl), def_mk X G a4 l4 c4 k4 (fun _ _ _ _ _ _ us hl => match us, hl with | [_, _], _ => rfl), def_mk X G a5 l5 c5 k5 (fun _ _ _ _ _ _ us hl => match us, hl with | [_, _], _ => rfl), def_mk X G a6 l6 c6 k6 (fun _ _ _ _ _ _ us hl => match us, hl with | [_, _, _], _ => rfl), def_mk X G a7 l7 c7 k7 (fun _ _ _ _ _ _ us hl => match us, hl with | [_, _], _ => rfl), defD_mk X G a8 l8 lT8 c8 k8 (fun _ _ _ _ _ _ _ us its h1 h2 => match us, its, h1, h2 with | [_, _], [_], _, _ => ⟨_, rfl, rfl⟩) (fun _ _ _ _ _ _ _ us its h1 h2 => match us, its, h1, h2 with | [_], [_], _, _ => ⟨_, rfl, rfl⟩) (fun _ _ _ _ _ _ _ us its ws h1 h2 h3 => match us, its, ws, h1, h2, h3 with | [_], [_], [_], _, _, _ => ⟨_, rfl, rfl⟩), def_mk X G a9 l9 c9 k9 (fun _ _ _ _ _ _ us hl => match us, hl with | [_, _], _ => rfl), def_mk X G a10 l10 c10 k10 (fun _ _ _ _ _ _ us hl => match us, hl with | [_, _], _ => rfl), def_mk X G a11 l11 c11 k11 (fun _ _ _ _ _ _ us hl => match us, hl with | [_, _, _], _ => rfl), def_mk X G a12 l12 c12 k12 (fun _ _ _ _ _ _ us hl => match us, hl with | [_, _], _ => rfl), def_mk X G a13 l13 c13 k13 (fun _ _ _ _ _ _ us hl => match us, hl with | [_, _], _ => rfl), def_mk X G a14 l14 c14 k14 (fun _ _ _ _ _ _ us hl => match us, hl with | [_, _], _ => rfl), def_mk X G a15 l15 c15 k15 (fun _ _ _ _ _ _ us hl => match us, hl with | [_, _], _ => rfl), def_mk X G a16 l16 c16 k16 (fun _ _ _ _ _ _ us hl => match us, hl with | [_, _], _ => rfl), def_mk X G a17 l17 c17 k17 (fun _ _ _ _ _ _ us hl => match us, hl with | [_, _], _ => rfl), def_mk X G a18 l18 c18 k18 (fun _ _ _ _ _ _ us hl => match us, hl with | [_, _, _], _ => rfl), def_mk X G a19 l19 c19 k19 (fun _ _ _ _ _ _ us hl => match us, hl with | [_], _ => rfl), def_mk X G a20 l20 c20 k20 (fun _ _ _ _ _ _ us hl => match us, hl with | [_, _], _ => rfl), def_mk X G a21 l21 c21 k21 (fun _ _ _ _ _ _ us hl => match us, hl with | [_, _], _ => rfl), def_mk X G a22 l22 c22 k22 (fun _ _ _ _ _ _ us hl => match us, hl with | [_, _], _ => rfl), def_mk X G a23 l23 c23 k23 (fun _ _ _ _ _ _ us hl => match us, hl with | [_, _], _ => rfl), def_mk X G a24 l24 c24 k24 (fun _ _ _ _ _ _ us hl => match us, hl with | [_, _], _ => rfl), def_mk X G a25 l25 c25 k25 (fun _ _ _ _ _ _ us hl => match us, hl with | [_, _], _ => rfl), def_mk X G a26 l26 c26 k26 (fun _ _ _ _ _ _ us hl => match us, hl with | [_], _ => rfl), def_mk X G a27 l27 c27 k27 (fun _ _ _ _ _ _ us hl => match us, hl with | [_, _], _ => rfl), def_mk X G a28 l28 c28 k28 (fun _ _ _ _ _ _ us hl => match us, hl with | [_, _], _ => rfl), def_mk X G a29 l29 c29 k29 (fun _ _ _ _ _ _ us hl => match us, hl with | [_, _, _], _ => rfl), def_mk X G a30 l30 c30 k30 (fun _ _ _ _ _ _ us hl => match us, hl with | [_, _], _ => rfl), def_mk X G a31 l31 c31 k31 (fun _ _ _ _ _ _ us hl => match us, hl with | [_, _, _], _ => rfl), def_mk X G a32 l32 c32 k32 (fun _ _ _ _ _ _ us hl => match us, hl with | [_, _, _], _ => rfl), def_mk X G a33 l33 c33 k33 (fun _ _ _ _ _ _ us hl => match us, hl with | [_, _, _], _ => rfl), def_mk X G a34 l34 c34 k34 (fun _ _ _ _ _ _ us hl => match us, hl with | [_, _], _ => rfl), def_mk X G a35 l35 c35 k35 (fun _ _ _ _ _ _ us hl => match us, hl with | [_, _, _], _ => rfl), def_mk X G a36 l36 c36 k36 (fun _ _ _ _ _ _ us hl => match us, hl with | [_, _], _ => rfl), def_mk X G a37 l37 c37 k37 (fun _ _ _ _ _ _ us hl => match us, hl with | [_, _], _ => rfl), def_mk X G a38 l38 c38 k38 (fun _ _ _ _ _ _ us hl => match us, hl with | [_], _ => rfl), PySem.W.mg_none_of X G z0, PySem.W.mg_none_of X G z1, PySem.W.mg_none_of X G z2, PySem.W.mg_none_of X G z3, PySem.W.mg_none_of X G z4, PySem.W.mg_none_of X G z5, PySem.W.mg_none_of X G z6, PySem.W.mg_none_of X G z7, PySem.W.mg_none_of X G z8, PySem.W.mg_none_of X G z9, PySem.W.mg_none_of X G z10, PySem.W.mg_none_of X G z11, PySem.W.mg_none_of X G z12, PySem.W.mg_none_of X G z13, tfirst_mk (PySem.W.mg_of X G gc_FIRST) gta gte gtf, ⟨PySem.W.mg_of X G xn_tooMany, xx_tooMany, xk_tooMany, xt_tooMany, xg_tooMany, xh_tooMany, xb_tooMany, xd_tooMany, xl_tooMany, xsp, xtk, xm_tooMany⟩⟩
  have e := hfa.symm.trans (PySem.W.mg_of X G a38)
  cases e
  exact ⟨PySem.W.fnOf "law" "law" (defArgs s_law) (defBody s_law) (defScope s_law) .none kV38 dc38 pm38 an38 cd38 ct38, fun s v => .of_eq rfl, fun base _ _ => all_ok T (fun_mk (st := s_law) l38 c38 k38)⟩
end L35
open PySem PySem.W PyProof.Rows in
set_option maxRecDepth 100000 in
set_option maxHeartbeats 0 in
theorem PySem.Challenge.cw_warmove_k35_never_and_two_looked_at_holds : PySem.Challenge.rw_warmove_k35_never_and_two_looked_at.Holds := by
  w_on; o_law; k_head; (case hw => w_witness2)
  k_fill
  refine GL.walk_ofG (l := PySem.Challenge.rw_warmove_k35_never_and_two_looked_at) (n := 63) (k := 7) (x := "script") (sp := fun w => GL.spLaw _) rfl (by decide) rfl ⟨rfl, by decide, by decide⟩ (fun w h Y => PySem.W.kIn_of Y) ?F (fun _ _ a ns hl _ hS => ⟨a, ns, rfl, hS, hl, fun _ => rfl⟩)
  case F =>
    intro w mg fa h KX G hmg
    refine' L35.all_mk KX G hmg ?a0 ?l0 ?c0 ?k0 ?a1 ?l1 ?c1 ?k1 ?a2 ?l2 ?c2 ?k2 ?a3 ?l3 ?c3 ?k3 ?a4 ?l4 ?c4 ?k4 ?a5 ?l5 ?c5 ?k5 ?a6 ?l6 ?c6 ?k6 ?a7 ?l7 ?c7 ?k7 ?a8 ?l8 ?c8 ?k8 ?lT8 ?a9 ?l9 ?c9 ?k9 ?a10 ?l10 ?c10 ?k10 ?a11 ?l11 ?c11 ?k11 ?a12 ?l12 ?c12 ?k12 ?a13 ?l13 ?c13 ?k13 ?a14 ?l14 ?c14 ?k14 ?a15 ?l15 ?c15 ?k15 ?a16 ?l16 ?c16 ?k16 ?a17 ?l17 ?c17 ?k17 ?a18 ?l18 ?c18 ?k18 ?a19 ?l19 ?c19 ?k19 ?a20 ?l20 ?c20 ?k20 ?a21 ?l21 ?c21 ?k21 ?a22 ?l22 ?c22 ?k22 ?a23 ?l23 ?c23 ?k23 ?a24 ?l24 ?c24 ?k24 ?a25 ?l25 ?c25 ?k25 ?a26 ?l26 ?c26 ?k26 ?a27 ?l27 ?c27 ?k27 ?a28 ?l28 ?c28 ?k28 ?a29 ?l29 ?c29 ?k29 ?a30 ?l30 ?c30 ?k30 ?a31 ?l31 ?c31 ?k31 ?a32 ?l32 ?c32 ?k32 ?a33 ?l33 ?c33 ?k33 ?a34 ?l34 ?c34 ?k34 ?a35 ?l35 ?c35 ?k35 ?a36 ?l36 ?c36 ?k36 ?a37 ?l37 ?c37 ?k37 ?a38 ?l38 ?c38 ?k38 ?xn_tooMany ?xt_tooMany ?xb_tooMany ?xd_tooMany ?xx_tooMany ?xk_tooMany ?xg_tooMany ?xh_tooMany ?xl_tooMany ?xm_tooMany ?xsp ?xtk ?z0 ?z1 ?z2 ?z3 ?z4 ?z5 ?z6 ?z7 ?z8 ?z9 ?z10 ?z11 ?z12 ?z13 ?gc_FIRST ?gta ?gte ?gtf
    (case a0 => k_is)
    (case l0 => k_is)
    (case c0 => k_is)
    (case k0 => k_is)
    (case a1 => k_is)
    (case l1 => k_is)
    (case c1 => k_is)
    (case k1 => k_is)
    (case a2 => k_is)
    (case l2 => k_is)
    (case c2 => k_is)
    (case k2 => k_is)
    (case a3 => k_is)
    (case l3 => k_is)
    (case c3 => k_is)
    (case k3 => k_is)
    (case a4 => k_is)
    (case l4 => k_is)
    (case c4 => k_is)
    (case k4 => k_is)
    (case a5 => k_is)
    (case l5 => k_is)
    (case c5 => k_is)
    (case k5 => k_is)
    (case a6 => k_is)
    (case l6 => k_is)
    (case c6 => k_is)
    (case k6 => k_is)
    (case a7 => k_is)
    (case l7 => k_is)
    (case c7 => k_is)
    (case k7 => k_is)
    (case a8 => k_is)
    (case l8 => k_is)
    (case c8 => k_is)
    (case k8 => k_is)
    (case lT8 => k_is)
    (case a9 => k_is)
    (case l9 => k_is)
    (case c9 => k_is)
    (case k9 => k_is)
    (case a10 => k_is)
    (case l10 => k_is)
    (case c10 => k_is)
    (case k10 => k_is)
    (case a11 => k_is)
    (case l11 => k_is)
    (case c11 => k_is)
    (case k11 => k_is)
    (case a12 => k_is)
    (case l12 => k_is)
    (case c12 => k_is)
    (case k12 => k_is)
    (case a13 => k_is)
    (case l13 => k_is)
    (case c13 => k_is)
    (case k13 => k_is)
    (case a14 => k_is)
    (case l14 => k_is)
    (case c14 => k_is)
    (case k14 => k_is)
    (case a15 => k_is)
    (case l15 => k_is)
    (case c15 => k_is)
    (case k15 => k_is)
    (case a16 => k_is)
    (case l16 => k_is)
    (case c16 => k_is)
    (case k16 => k_is)
    (case a17 => k_is)
    (case l17 => k_is)
    (case c17 => k_is)
    (case k17 => k_is)
    (case a18 => k_is)
    (case l18 => k_is)
    (case c18 => k_is)
    (case k18 => k_is)
    (case a19 => k_is)
    (case l19 => k_is)
    (case c19 => k_is)
    (case k19 => k_is)
    (case a20 => k_is)
    (case l20 => k_is)
    (case c20 => k_is)
    (case k20 => k_is)
    (case a21 => k_is)
    (case l21 => k_is)
    (case c21 => k_is)
    (case k21 => k_is)
    (case a22 => k_is)
    (case l22 => k_is)
    (case c22 => k_is)
    (case k22 => k_is)
    (case a23 => k_is)
    (case l23 => k_is)
    (case c23 => k_is)
    (case k23 => k_is)
    (case a24 => k_is)
    (case l24 => k_is)
    (case c24 => k_is)
    (case k24 => k_is)
    (case a25 => k_is)
    (case l25 => k_is)
    (case c25 => k_is)
    (case k25 => k_is)
    (case a26 => k_is)
    (case l26 => k_is)
    (case c26 => k_is)
    (case k26 => k_is)
    (case a27 => k_is)
    (case l27 => k_is)
    (case c27 => k_is)
    (case k27 => k_is)
    (case a28 => k_is)
    (case l28 => k_is)
    (case c28 => k_is)
    (case k28 => k_is)
    (case a29 => k_is)
    (case l29 => k_is)
    (case c29 => k_is)
    (case k29 => k_is)
    (case a30 => k_is)
    (case l30 => k_is)
    (case c30 => k_is)
    (case k30 => k_is)
    (case a31 => k_is)
    (case l31 => k_is)
    (case c31 => k_is)
    (case k31 => k_is)
    (case a32 => k_is)
    (case l32 => k_is)
    (case c32 => k_is)
    (case k32 => k_is)
    (case a33 => k_is)
    (case l33 => k_is)
    (case c33 => k_is)
    (case k33 => k_is)
    (case a34 => k_is)
    (case l34 => k_is)
    (case c34 => k_is)
    (case k34 => k_is)
    (case a35 => k_is)
    (case l35 => k_is)
    (case c35 => k_is)
    (case k35 => k_is)
    (case a36 => k_is)
    (case l36 => k_is)
    (case c36 => k_is)
    (case k36 => k_is)
    (case a37 => k_is)
    (case l37 => k_is)
    (case c37 => k_is)
    (case k37 => k_is)
    (case a38 => k_is)
    (case l38 => k_is)
    (case c38 => k_is)
    (case k38 => k_is)
    (case xn_tooMany => k_is)
    (case xt_tooMany => k_is)
    (case xb_tooMany => k_is)
    (case xd_tooMany => k_is)
    (case xx_tooMany => k_exc)
    (case xk_tooMany => k_is)
    (case xg_tooMany => k_is)
    (case xh_tooMany => k_is)
    (case xl_tooMany => k_is)
    (case xm_tooMany => k_is)
    (case xsp => k_is)
    (case xtk => k_is)
    (case z0 => k_is)
    (case z1 => k_is)
    (case z2 => k_is)
    (case z3 => k_is)
    (case z4 => k_is)
    (case z5 => k_is)
    (case z6 => k_is)
    (case z7 => k_is)
    (case z8 => k_is)
    (case z9 => k_is)
    (case z10 => k_is)
    (case z11 => k_is)
    (case z12 => k_is)
    (case z13 => k_is)
    (case gc_FIRST => k_is)
    (case gta => k_is)
    (case gte => k_is)
    (case gtf => k_is)
#print axioms PySem.Challenge.cw_warmove_k35_never_and_two_looked_at_holds
