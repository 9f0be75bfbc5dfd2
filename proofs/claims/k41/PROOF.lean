import PyProof.Rows.All
import Wide.All
import OpenK.AllK
import Wide.FinOn
import PyProof.TupleCall
import HandS.Dict
import HandS.ForMost
import HandS.Evl
import HandS.Conv
import HandS.More
import HandS.SortInts
import HandS.IsInst
import HandS.TupMul
import HandS.TupAny
import HandS.TupSets
import HandS.SetFor
import HandS.List
import KE.KSortTupG
import KE.KSortTupUse
import HandS.Style
import HandS.Wide
import HandS.TupLe
import HandS.Zip
import HandS.DictComp
import HandS.DictTup
import HandS.Exc
import HandS.ExcIs
import HandS.TryOnly
import HandS.ExcOwn
import HandS.ExcValue
import HandS.WordsExc
import HandS.Call
import HandS.ListEq
import PyProof.DictMoreH
import HandS.Codes
import HandS.Text
import KE.KEqNest
import KE.GoesMore
import KE.GoesZip
import HandS.RaiseMore
import PyProof.NeKinds
import KE.KEqDict
import HandS.TupLen
import PySem.Challenge.RW_warmove_k41_whole_each_once_in_order
set_option Elab.async false
set_option linter.all false
set_option maxRecDepth 100000
namespace GL
open PySem
open PySem.Sem (wp)
section
variable {prog : Program} {w : World} {κ : Type} [DecidableEq κ] (knd : KeyKind prog w κ)
abbrev NK (κ : Type) := List (κ ⊕ List κ)
def ItemN (h : Heap) : κ ⊕ List κ → Value → Prop
  | .inl k, v => knd.is k v = true
  | .inr l, v => ∃ b, v = .ref b ∧ IsTupleKey knd h l b
inductive ItemsN (h : Heap) : NK κ → List Value → Prop
  | nil : ItemsN h [] []
  | cons {k : κ ⊕ List κ} {v : Value} {ks : NK κ} {vs : List Value} : ItemN knd h k v → ItemsN h ks vs → ItemsN h (k :: ks) (v :: vs)
def IsNK (h : Heap) (ks : NK κ) (a : Addr) : Prop := ∃ o items n, h.get? a = some o ∧ o.cls = .type "tuple" ∧ o.data = .seq items n ∧ ItemsN knd h ks items.toList
variable {knd}
theorem ItemN.inj {h : Heap} {x y : κ ⊕ List κ} {v : Value} (hx : ItemN knd h x v) (hy : ItemN knd h y v) : x = y := by
  cases x with
  | inl k =>
    cases y with
    | inl k' => exact congrArg Sum.inl (knd.inj _ _ _ hx hy)
    | inr l' =>
      obtain ⟨b, rfl, _⟩ := hy
      have := knd.byValue _ _ hx
      simp [carriedByValue] at this
  | inr l =>
    obtain ⟨b, rfl, hl⟩ := hx
    cases y with
    | inl k' =>
      have := knd.byValue _ _ hy
      simp [carriedByValue] at this
    | inr l' =>
      obtain ⟨b', e, hl'⟩ := hy
      cases e
      exact congrArg Sum.inr (hl.inj hl')
theorem ItemsN.inj {h : Heap} {x y : NK κ} {vs : List Value} (hx : ItemsN knd h x vs) (hy : ItemsN knd h y vs) : x = y := by
  induction hx generalizing y with
  | nil => cases hy; rfl
  | cons h1 _ ih =>
    cases hy with
    | cons h2 t2 => rw [h1.inj h2, ih t2]
theorem IsNK.typeIs {s : Shared} {ks : NK κ} {a : Addr} (x : IsNK knd s.heap ks a) : s.TypeIs (.ref a) "tuple" := let ⟨o, _, _, ho, hc, _⟩ := x; ⟨o, ho, hc⟩
theorem IsNK.inj {h : Heap} {a : Addr} {x y : NK κ} (hx : IsNK knd h x a) (hy : IsNK knd h y a) : x = y := by
  obtain ⟨o, items, n, ho, _, hd, hi⟩ := hx
  obtain ⟨o', items', n', ho', _, hd', hi'⟩ := hy
  obtain rfl : o = o' := Option.some.inj (ho.symm.trans ho')
  rw [hd] at hd'
  injection hd' with h1 _
  subst h1
  exact hi.inj hi'
theorem ItemsN.keeps {h h' : Heap} {d : Addr} {o : Obj} {es ep} (ho : h.get? d = some o) (hd : o.data = .dict es ep) (hs : Heap.SameBut d h h') {ks : NK κ} {vs : List Value} (x : ItemsN knd h ks vs) : ItemsN knd h' ks vs := by
  induction x with
  | nil => exact .nil
  | @cons k v ks vs h1 _ ih =>
    refine .cons ?_ ih
    cases k with
    | inl k => exact h1
    | inr l =>
      obtain ⟨b, e, hl⟩ := h1
      exact ⟨b, e, hl.keeps ho hd hs⟩
theorem IsNK.keeps {h h' : Heap} {ks : NK κ} {a d : Addr} {o : Obj} {es ep} (x : IsNK knd h ks a) (ho : h.get? d = some o) (hd : o.data = .dict es ep) (hs : Heap.SameBut d h h') : IsNK knd h' ks a := by
  obtain ⟨o', items, n, ho', hc, hd', hi⟩ := x
  have hne : a ≠ d := by
    rintro rfl
    obtain rfl : o' = o := Option.some.inj (ho'.symm.trans ho)
    rw [hd] at hd'
    exact nomatch hd'
  exact ⟨o', items, n, (hs.2 a hne).trans ho', hc, hd', hi.keeps ho hd hs⟩
variable (knd) in
def itemHash : κ ⊕ List κ → Int
  | .inl k => knd.hash k
  | .inr l => tupleKeyHash knd l
def itemDraws : κ ⊕ List κ → Nat
  | .inl _ => 1
  | .inr l => l.length + 1
def nkDraws (ks : NK κ) : Nat := (ks.map itemDraws).sum + 1
variable (knd) in
def nkHash (ks : NK κ) : Int := reduceHash (Builtin.Tuple.tupleHashOf (ks.map (itemHash knd)))
variable {A : Around} {E : Value → Shared → Prop} {s : Shared}
theorem hash_item {k : κ ⊕ List κ} {v : Value} {Q : Int → Shared → Prop} (hu : A.units < cLine) (hk : ItemN knd s.heap k v) (h : Q (itemHash knd k) { s with toks := s.toks + itemDraws k }) : wpAny (model prog w) A (pyHash v) Q E s := by
  cases k with
  | inl k => exact knd.pyHash hk h
  | inr l =>
    obtain ⟨b, rfl, hl⟩ := hk
    exact wpAny_pyHash_tuple hu hl h
theorem hash_nk {ks : NK κ} {a : Addr} {Q : Int → Shared → Prop} (hu : A.units + 1 < cLine) (hk : IsNK knd s.heap ks a) (h : Q (nkHash knd ks) { s with toks := s.toks + nkDraws ks }) :
    wpAny (model prog w) A (pyHash (.ref a)) Q E s := by
  have hT := hk.typeIs
  obtain ⟨o, items, n, ho, _, hd, hi⟩ := hk
  unfold pyHash
  first | unfold pyHashByItsType | skip
  first | refine wpAny_bind (wpAny_cRoomFor_or (.inr (Nat.lt_of_succ_lt hu)) ?_) | skip
  refine wpAny_bind (wpAny_specialOf hT F.slot_tuple_hash.lookup ?_)
  show wpAny _ _ (if (some (Value.builtin "tuple.__hash__") == some Value.none) = true then _ else _) Q E s
  rw [if_neg (by rw [beq_builtin_none]; exact Bool.false_ne_true)]
  refine wpAny_bind (wpAny_specialOf hT F.slot_tuple_hash.lookup ?_)
  show wpAny _ _ (callSpecialIfBoundUnlessNone? (.ref a) "__hash__" _ >>= _) Q E s
  refine wpAny_bind (wpAny_callSpecialIfBoundUnlessNone?_slot hT F.slot_tuple_hash (wpAny_call_entry F.slot_tuple_hash hT F.entry_tuple_hash ?_ (F.args_tuple_hash_1 _)))
  show wpAny _ _ (Builtin.Tuple.tupleItemsOf (.ref a) >>= _) _ _ s
  refine wpAny_bind (wpAny_tupleItemsOf ho hd ?_)
  refine wpAny_bind ?_
  rw [← Array.forIn_toList]
  refine wpAny_forIn_list _
    (fun rest (b : Array Int) s' => ∃ done left, ks = done ++ left ∧ ItemsN knd s.heap left rest ∧ b.toList = done.map (itemHash knd) ∧ s' = { s with toks := s.toks + (done.map itemDraws).sum })
    _ ?_ ?_ _ _ ⟨[], ks, rfl, hi, rfl, rfl⟩
  · rintro x rest b s' ⟨done, left, rfl, hl, hb, rfl⟩
    cases hl with
    | @cons k _ ks' _ h1 hl' =>
      refine wpAny_bind (hash_item (by first | exact hu | exact Nat.lt_of_succ_lt hu) h1 ?_)
      first
        | exact wpAny_pure ⟨done ++ [k], ks', by simp, hl', by simp [hb], by simp [Nat.add_assoc]⟩
        | exact wpAny_bind (wpAny_pure (wpAny_pure ⟨done ++ [k], ks', by simp, hl', by simp [hb], by simp [Nat.add_assoc]⟩))
  · rintro b s' ⟨done, left, rfl, hl, hb, rfl⟩
    cases hl
    rw [List.append_nil] at h
    show wpAny _ _ (retInt (Builtin.Tuple.tupleHashOf b.toList)) _ _ _
    rw [hb]
    refine wpAny_ret_mkInt ?_
    show wpAny _ _ (if (decide (-(2 : Int) ^ 63 ≤ Builtin.Tuple.tupleHashOf (done.map (itemHash knd))) && decide (Builtin.Tuple.tupleHashOf (done.map (itemHash knd)) < 2 ^ 63)) = true then _ else _) Q E _
    unfold nkHash reduceHash nkDraws at h
    by_cases hr : (decide (-(2 : Int) ^ 63 ≤ Builtin.Tuple.tupleHashOf (done.map (itemHash knd))) && decide (Builtin.Tuple.tupleHashOf (done.map (itemHash knd)) < 2 ^ 63)) = true
    · rw [if_pos hr]
      rw [if_pos hr] at h
      exact wpAny_pure (by simpa [Nat.add_assoc] using h)
    · rw [if_neg hr]
      rw [if_neg hr] at h
      exact wpAny_bind (wpAny_rule (wpAny_pure (by simpa [Nat.add_assoc] using h)))
def side : κ ⊕ List κ → Bool
  | .inl _ => true
  | .inr _ => false
theorem eq_item {x y : κ ⊕ List κ} {u v : Value} {Q : Bool → Shared → Prop} (hu : A.units < cLine) (hs : side x = side y) (hx : ItemN knd s.heap x u) (hy : ItemN knd s.heap y v) (h : Q (decide (x = y)) s) : wpAny (model prog w) A (eqBool u v) Q E s := by
  cases x with
  | inl k =>
    cases y with
    | inl k' => exact knd.eqBool (a := k) (b := k') hx hy (by rw [show decide (k = k') = decide ((Sum.inl k : κ ⊕ List κ) = .inl k') by simp]; exact h)
    | inr l' => cases hs
  | inr l =>
    obtain ⟨b, rfl, hl⟩ := hx
    cases y with
    | inl k' => cases hs
    | inr l' =>
      obtain ⟨b', rfl, hl'⟩ := hy
      exact wpAny_eqBool_tuple hu hl hl' (by rw [show decide (l = l') = decide ((Sum.inr l : κ ⊕ List κ) = .inr l') by simp]; exact h)
theorem eq_tree {x y : NK κ} {a b : Addr} {P : Fin → Shared → Prop} (hu : A.units < cLine) (hsd : x.map side = y.map side) (hx : IsNK knd s.heap x a) (hy : IsNK knd s.heap y b) (h : P (.done (.ret (.bool (decide (x = y))))) s) :
    wpAny (model prog w) A (Builtin.«tuple.__eq__» ⟨[.ref a, .ref b], []⟩) P E s := by
  have hTb := hy.typeIs
  obtain ⟨oa, xs, na, hoa, _, hda, hia⟩ := hx
  obtain ⟨ob, ys, nb, hob, _, hdb, hib⟩ := hy
  show wpAny _ _ (isInstance (.ref b) (.type "tuple") >>= _) _ _ s
  refine wpAny_bind (wpAny_isInstance hTb isSubtype_tuple_tuple ?_)
  simp only [Bool.not_true, Bool.false_eq_true, if_false]
  refine wpAny_bind (wpAny_tupleItemsOf hoa hda ?_)
  refine wpAny_bind (wpAny_tupleItemsOf hob hdb ?_)
  refine wpAny_bind ?_
  refine wpAny_forIn_list _
    (fun rest r s' => r.1 = none ∧ s' = s ∧ ∃ x' y' xs' ys', rest = List.zip xs' ys' ∧ ItemsN knd s.heap x' xs' ∧ ItemsN knd s.heap y' ys' ∧ x'.map side = y'.map side ∧ decide (x' = y') = decide (x = y) ∧ (xs'.length == ys'.length) = (xs.size == ys.size))
    _ ?_ ?_ _ _ ⟨rfl, rfl, x, y, xs.toList, ys.toList, rfl, hia, hib, hsd, rfl, by simp⟩
  · rintro ⟨u, v⟩ rest r s' ⟨hr, rfl, x', y', xs', ys', hz, hx', hy', hsd', hdec, hlen⟩
    cases hx' with
    | nil => simp at hz
    | @cons k1 u' x'' xs'' h1 hx'' =>
      cases hy' with
      | nil => simp at hz
      | @cons k2 v' y'' ys'' h2 hy'' =>
        simp only [List.zip_cons_cons, List.cons.injEq, Prod.mk.injEq] at hz
        obtain ⟨⟨rfl, rfl⟩, rfl⟩ := hz
        simp only [List.map_cons, List.cons.injEq] at hsd'
        refine wpAny_bind (eq_item hu hsd'.1 h1 h2 ?_)
        by_cases hk : k1 = k2
        · subst hk
          rw [decide_eq_true rfl]
          simp only [Bool.not_true, Bool.false_eq_true, if_false]
          refine wpAny_pure ⟨rfl, rfl, x'', y'', xs'', ys'', rfl, hx'', hy'', hsd'.2, ?_, by simpa using hlen⟩
          rw [← hdec]
          by_cases hxy : x'' = y''
          · simp [hxy]
          · simp [hxy]
        · rw [decide_eq_false hk]
          simp only [Bool.not_false, if_true]
          have hf : decide (x = y) = false := by rw [← hdec]; simp [hk]
          rw [hf] at h
          exact wpAny_bind (wpAny_pure (wpAny_pure (wpAny_pure h)))
  · rintro ⟨r1, r2⟩ s' ⟨hr, rfl, x', y', xs', ys', hz, hx', hy', hsd', hdec, hlen⟩
    simp only at hr
    subst hr
    refine wpAny_pure ?_
    have hfin : (xs.size == ys.size) = decide (x = y) := by
      rw [← hdec, ← hlen]
      cases hx' with
      | nil =>
        cases hy' with
        | nil => simp
        | cons _ _ => simp
      | cons _ _ =>
        cases hy' with
        | nil => simp
        | cons _ _ => simp at hz
    show P (.done (.ret (.bool (xs.size == ys.size)))) s'
    rw [hfin]
    exact h
theorem eq_nk {x y : NK κ} {a b : Addr} {Q : Bool → Shared → Prop} (hu : A.units + 1 < cLine) (hsd : x.map side = y.map side) (hx : IsNK knd s.heap x a) (hy : IsNK knd s.heap y b) (h : Q (decide (x = y)) s) :
    wpAny (model prog w) A (eqBool (.ref a) (.ref b)) Q E s := by
  unfold eqBool
  try with_reducible refine wpAny_holding ?_
  show wpAny _ _ (if (Value.ref a == Value.ref b) = true then _ else _) Q E s
  by_cases hab : (Value.ref a == Value.ref b) = true
  · rw [if_pos hab]
    have e : a = b := by have := eq_of_beq hab; injection this
    subst e
    obtain rfl := hx.inj hy
    exact wpAny_bind (wpAny_rule (wpAny_pure (by simpa using h)))
  · rw [if_neg hab]
    exact wpAny_bind (wpAny_richCompare_same_room (op := .Eq) hx.typeIs hy.typeIs F.slot_tuple_eq
      (wpAny_call_entry F.slot_tuple_eq hx.typeIs F.entry_tuple_eq (eq_tree (by first | exact hu | exact Nat.lt_of_succ_lt hu) hsd hx hy ⟨_, rfl, (fun e => nomatch e), wpAny_truthy_bool h⟩) (F.args_tuple_eq_2 _ _)) (Nat.lt_of_succ_lt hu))
theorem quiet_tup (n : Nat) {ks : List κ} {a : Addr} {Q : Bool → Shared → Prop} (hk : IsTupleKey knd s.heap ks a) (h : Q true s) : wpAny (model prog w) A (eqIsQuiet (n + 1) (.ref a)) Q E s := by
  have hT := hk.typeIs
  obtain ⟨o, items, n', ho, _, hd, hi⟩ := hk
  unfold eqIsQuiet
  refine wpAny_bind (wpAny_specialOf hT F.slot_tuple_eq.lookup ?_)
  show wpAny _ _ (isInstance (.ref a) (.type "tuple") >>= _) _ _ s
  refine wpAny_bind (wpAny_isInstance hT isSubtype_tuple_tuple ?_)
  simp only [Bool.not_true, Bool.false_eq_true, if_false]
  refine wpAny_bind (wpAny_seqItems ho hd ?_)
  refine wpAny_bind ?_
  show wpAny _ _ (forIn items _ _) _ _ s
  rw [← Array.forIn_toList]
  refine wpAny_forIn_list _ (fun rest r s' => r.1 = none ∧ s' = s ∧ ∀ v ∈ rest, carriedByValue v = true) _ ?_ ?_ _ _ ⟨rfl, rfl, hi.byValue⟩
  · rintro v rest r s' ⟨hr, rfl, hall⟩
    rw [eqIsQuiet_byValue _ (hall v List.mem_cons_self)]
    refine wpAny_bind (wpAny_pure ?_)
    simp only [Bool.not_true, Bool.false_eq_true, if_false]
    exact wpAny_pure ⟨rfl, rfl, fun u hu' => hall u (List.mem_cons_of_mem _ hu')⟩
  · rintro ⟨r1, r2⟩ s' ⟨hr, rfl, _⟩
    simp only at hr
    subst hr
    exact wpAny_pure h
theorem quiet_nk {ks : NK κ} {a : Addr} {Q : Bool → Shared → Prop} (hk : IsNK knd s.heap ks a) (h : Q true s) : wpAny (model prog w) A (eqIsQuiet 8 (.ref a)) Q E s := by
  have hT := hk.typeIs
  obtain ⟨o, items, n', ho, _, hd, hi⟩ := hk
  unfold eqIsQuiet
  refine wpAny_bind (wpAny_specialOf hT F.slot_tuple_eq.lookup ?_)
  show wpAny _ _ (isInstance (.ref a) (.type "tuple") >>= _) _ _ s
  refine wpAny_bind (wpAny_isInstance hT isSubtype_tuple_tuple ?_)
  simp only [Bool.not_true, Bool.false_eq_true, if_false]
  refine wpAny_bind (wpAny_seqItems ho hd ?_)
  refine wpAny_bind ?_
  show wpAny _ _ (forIn items _ _) _ _ s
  rw [← Array.forIn_toList]
  refine wpAny_forIn_list _ (fun rest r s' => r.1 = none ∧ s' = s ∧ ∃ left, ItemsN knd s.heap left rest) _ ?_ ?_ _ _ ⟨rfl, rfl, ks, hi⟩
  · rintro v rest r s' ⟨hr, rfl, left, hall⟩
    cases hall with
    | @cons k _ ks' _ h1 hl' =>
      have go : ∀ {Q' : Bool → Shared → Prop}, Q' true s' → wpAny (model prog w) A (eqIsQuiet 7 v) Q' E s' := fun q => by
        cases k with
        | inl k =>
          rw [eqIsQuiet_byValue _ (knd.byValue _ _ h1)]
          exact wpAny_pure q
        | inr l =>
          obtain ⟨b, rfl, hl⟩ := h1
          exact quiet_tup 6 hl q
      refine wpAny_bind (go ?_)
      simp only [Bool.not_true, Bool.false_eq_true, if_false]
      exact wpAny_pure ⟨rfl, rfl, ks', hl'⟩
  · rintro ⟨r1, r2⟩ s' ⟨hr, rfl, _⟩
    simp only at hr
    subst hr
    exact wpAny_pure h
end
def nkKind {prog : Program} {w : World} {κ : Type} [DecidableEq κ] (knd : KeyKind prog w κ) (sh : List Bool) : HeapKind prog w (NK κ) where
  is := fun h ks a => IsNK knd h ks a ∧ ks.map side = sh
  hash := nkHash knd
  draws := nkDraws
  room := fun A => A.units + 1 < cLine
  inj := fun hx hy => hx.1.inj hy.1
  keeps := fun x ho hd hs => ⟨x.1.keeps ho hd hs, x.2⟩
  pyHash := fun hu hk h => hash_nk hu hk.1 h
  eqBool := fun hu hx hy h => eq_nk hu (hx.2.trans hy.2.symm) hx.1 hy.1 h
  quiet := fun hk h => quiet_nk hk.1 h
end GL
namespace GL
open PySem PySem.Spec PyProof.Rows L2
abbrev NKy := NK Int
def itemH : Int ⊕ List Int → Int
  | .inl k => hashInt k
  | .inr l => reduceHash (Builtin.Tuple.tupleHashOf (l.map hashInt))
def nkH (ks : NKy) : Int := reduceHash (Builtin.Tuple.tupleHashOf (ks.map itemH))
theorem nkH_eq (P : Program) (w : World) (ks : NKy) : nkHash (intKind P w) ks = nkH ks := by
  have e : itemHash (intKind P w) = itemH := by
    funext x
    cases x <;> rfl
  unfold nkHash nkH
  rw [e]
abbrev NL := List (NKy × Addr × V)
abbrev NV := List (NKy × Addr × Value)
abbrev NR : NL → NV → Prop := Paired fun p q => p.1 = q.1 ∧ p.2.1 = q.2.1 ∧ RelV p.2.2 q.2.2
def ndW (d : Addr) (L : NL) (h : Heap) : Prop := L.length ≤ sizeLine ∧ (d == sysModules) = false ∧ (L.map (·.1)).Nodup ∧
  ∃ xs : NV, NR L xs ∧ ∃ o es ep, h.get? d = some o ∧ o.ExactDict ∧ o.data = .dict es ep ∧ es.toList = xs.map fun x => ⟨nkH x.1, .ref x.2.1, x.2.2⟩
abbrev ndH (d : Addr) (L : NL) : HO := .ext (ndW d L)
def valN (L : NL) (k : NKy) : Option V := (L.find? fun e => decide (e.1 = k)).map (·.2.2)
def putN (L : NL) (k : NKy) (a : Addr) (v : V) : NL := if (valN L k).isSome = true then L.map (fun e => if e.1 = k then (e.1, e.2.1, v) else e) else L ++ [(k, a, v)]
def ItV (K : PySem.W.Frag) (H : Hp) : Int ⊕ List Int → V → Prop
  | .inl n, v => v = .int n
  | .inr l, v => ∃ b, v = .ref b ∧ SqT K H b (l.map .int)
def ItsV (K : PySem.W.Frag) (H : Hp) : NKy → List V → Prop
  | [], [] => True
  | k :: ks, v :: vs => ItV K H k v ∧ ItsV K H ks vs
  | _, _ => False
def KeyV (K : PySem.W.Frag) (H : Hp) (k : NKy) (a : Addr) : Prop := ∃ vs, SqT K H a vs ∧ ItsV K H k vs
def AllK (K : PySem.W.Frag) (H : Hp) (sh : List Bool) (L : NL) : Prop := ∀ e ∈ L, KeyV K H e.1 e.2.1 ∧ e.1.map side = sh
section
variable {X : Cx} {pins : List (Addr × Obj)} {σ : L2.St} {H : Hp} {s : Shared}
theorem ints_key {P : Program} {w : World} : ∀ {l : List Int} {its : List Value}, Vals (l.map V.int) its → ItemsAre (intKind P w) l its
  | [], [], _ => .nil
  | n :: l, v :: its, h => by
    cases h with
    | cons h1 h2 =>
      obtain ⟨t, rfl⟩ := h1
      exact .cons (by show Value.isInt n (.int n t) = true; simp [Value.isInt]) (ints_key h2)
theorem ItsV.at_ (I : Inv X pins σ H s) : ∀ {k : NKy} {vs : List V} {its : List Value}, ItsV X.K H k vs → Vals vs its → ItemsN (intKind X.prog X.w) s.heap k its
  | [], [], its, _, h => by cases h; exact .nil
  | .inl n :: ks, v :: vs, its, ⟨h1, h2⟩, h => by
    cases h with
    | cons r1 r2 =>
      rw [show v = .int n from h1] at r1
      obtain ⟨t, rfl⟩ := r1
      exact .cons (by show Value.isInt n (.int n t) = true; simp [Value.isInt]) (ItsV.at_ I h2 r2)
  | .inr l :: ks, v :: vs, its, ⟨h1, h2⟩, h => by
    cases h with
    | cons r1 r2 =>
      obtain ⟨b, rfl, hb⟩ := h1
      rw [show _ = Value.ref b from r1]
      obtain ⟨its', hv, hT, _⟩ := I.tuple hb
      obtain ⟨o, ho, hc, n, hd⟩ := hT
      exact .cons ⟨b, rfl, o, its'.toArray, n, ho, hc, hd, by simpa using ints_key hv⟩ (ItsV.at_ I h2 r2)
  | [], _ :: _, _, h, _ => h.elim
  | .inl _ :: _, [], _, h, _ => h.elim
  | .inr _ :: _, [], _, h, _ => h.elim
theorem KeyV.at_ (I : Inv X pins σ H s) {k : NKy} {a : Addr} (h : KeyV X.K H k a) : IsNK (intKind X.prog X.w) s.heap k a := by
  obtain ⟨vs, h1, h2⟩ := h
  obtain ⟨its, hv, hT, _⟩ := I.tuple h1
  obtain ⟨o, ho, hc, n, hd⟩ := hT
  exact ⟨o, its.toArray, n, ho, hc, hd, by simpa using h2.at_ I hv⟩
theorem NR.keys : ∀ {L : NL} {xs : NV}, NR L xs → L.map (·.1) = xs.map (·.1)
  | _, _, .nil => rfl
  | _, _, .cons h t => by rw [List.map_cons, List.map_cons, h.1, NR.keys t]
theorem NR.all {p : NKy → Addr → Prop} : ∀ {L : NL} {xs : NV}, NR L xs → (∀ e ∈ L, p e.1 e.2.1) → ∀ x ∈ xs, p x.1 x.2.1
  | _, _, .nil, _, x, hx => nomatch hx
  | _, _, .cons h t, q, x, hx => by
    rcases List.mem_cons.mp hx with e | hx
    · subst e
      rw [← h.1, ← h.2.1]
      exact q _ List.mem_cons_self
    · exact NR.all t (fun e he => q e (List.mem_cons_of_mem _ he)) x hx
theorem NR.val (k : NKy) : ∀ {L : NL} {xs : NV}, NR L xs → RelO (valN L k) ((atKey xs k).map (·.2))
  | _, _, .nil => True.intro
  | _, _, @Paired.cons _ _ _ p q L xs h t => by
    unfold valN atKey
    by_cases e : p.1 = k
    · rw [List.find?_cons, List.find?_cons, decide_eq_true e, decide_eq_true (by rw [← h.1]; exact e)]
      exact h.2.2
    · rw [List.find?_cons, List.find?_cons, decide_eq_false e, decide_eq_false (by rw [← h.1]; exact e)]
      exact NR.val k t
theorem nd_of (I : Inv X pins σ H s) {d : Addr} {sh : List Bool} {L : NL} (e : H d = some (ndH d L)) (ak : AllK X.K H sh L) : L.length ≤ sizeLine ∧ (d == sysModules) = false ∧ ∃ xs : NV, NR L xs ∧ s.heap.DictOfH (nkKind (intKind X.prog X.w) sh) d xs := by
  obtain ⟨⟨z, hd, hn, xs, rel, o, es, ep, ho, hx, hdt, hes⟩, _, _⟩ := (show ObjOk X.prog X.w H s.heap d (ndH d L) from I.hok d _ e)
  refine ⟨z, hd, xs, rel, o, es, ep, ho, hx, hdt, ?_, ?_, ?_⟩
  · rw [hes]
    refine List.map_congr_left fun x _ => ?_
    show _ = DictEntry.mk (nkHash (intKind X.prog X.w) x.1) _ _
    rw [nkH_eq]
  · exact NR.all (p := fun k a => (nkKind (intKind X.prog X.w) sh).is s.heap k a) rel fun e he => ⟨(ak e he).1.at_ I, (ak e he).2⟩
  · rw [← NR.keys rel]
    exact hn
theorem nkd_ok {P : Program} {w : World} {H' : Hp} {h : Heap} {d : Addr} {sh : List Bool} {L : NL} {xs : NV} (z : L.length ≤ sizeLine) (hd : (d == sysModules) = false) (rel : NR L xs) (dd : h.DictOfH (nkKind (intKind P w) sh) d xs) : ObjOk P w H' h d (ndH d L) := by
  obtain ⟨o, es, ep, ho, hx, hdt, hes, _, hn⟩ := dd
  have x : ndW d L h := ⟨z, hd, by rw [NR.keys rel]; exact hn, xs, rel, o, es, ep, ho, hx, hdt, by
    rw [hes]
    refine List.map_congr_left fun x _ => ?_
    show DictEntry.mk (nkHash (intKind P w) x.1) _ _ = _
    rw [nkH_eq]⟩
  refine ⟨x, ⟨o, ho⟩, fun h1 h2 ⟨z', hd', hn', xs', rel', o', es', ep', ho', r⟩ k => ⟨z', hd', hn', xs', rel', o', es', ep', k _ ho', r⟩⟩
theorem NR.put {k : NKy} {a : Addr} {v : V} {u : Value} (rv : RelV v u) {L : NL} {xs : NV} (r : NR L xs) : NR (putN L k a v) (storedH xs k a u) := by
  have e : (valN L k).isSome = (atKey xs k).isSome := by
    have := (r.val k).isSome_eq
    rw [Option.isSome_map] at this
    exact this
  unfold putN storedH
  rw [e]
  by_cases q : (atKey xs k).isSome = true
  · rw [if_pos q, if_pos q]
    clear e q
    induction r with
    | nil => exact .nil
    | @cons p q L xs h t ih =>
      refine .cons ?_ ih
      unfold putAt
      dsimp only
      by_cases c : p.1 = k
      · rw [if_pos c, if_pos (by rw [← h.1]; exact c)]
        exact ⟨h.1, h.2.1, rv⟩
      · rw [if_neg c, if_neg (by rw [← h.1]; exact c)]
        exact h
  · rw [if_neg q, if_neg q]
    exact Paired.snoc r ⟨rfl, rfl, rv⟩
theorem putN_len (L : NL) (k : NKy) (a : Addr) (v : V) : (putN L k a v).length ≤ L.length + 1 := by
  unfold putN
  split
  · rw [List.length_map]; omega
  · rw [List.length_append]; exact Nat.le_refl _
variable {A : Around} {E : Value → Shared → Prop} {d b : Addr} {sh : List Bool} {L : NL} {k : NKy} {v : V} {u r : Value}
structure NAt (K : PySem.W.Frag) (H : Hp) (d : Addr) (L : NL) (b : Addr) (k : NKy) : Prop where
  e : H d = some (ndH d L)
  ak : AllK K H (k.map side) L
  kb : KeyV K H k b
theorem n_getItem {Q : Value → Shared → Prop} (hu : A.units + 2 < cLine) (I : Inv X pins σ H s) (n : NAt X.K H d L b k) (hv : valN L k = some v) (h : ∀ w' s', Inv X pins σ H s' → RelV v w' → Q w' s') : wpAny (model X.prog X.w) A (getItem (.ref d) (.ref b)) Q E s := by
  obtain ⟨z, hd, xs, rel, dd⟩ := nd_of I n.e n.ak
  obtain ⟨w', hw, rw'⟩ := RelO.some_of (v := v) (o := (atKey xs k).map (·.2)) (by rw [← hv]; exact rel.val k)
  obtain ⟨p, hp, hp2⟩ := Option.map_eq_some_iff.mp hw
  refine wpAny_getItem_heap (knd := nkKind (intKind X.prog X.w) (k.map side)) hu ⟨n.kb.at_ I, rfl⟩ dd hp ?_
  rw [hp2]
  exact h w' _ (I.tok _) rw'
theorem n_setItem {Q : Unit → Shared → Prop} (hu : A.units + 2 < cLine) (I : Inv X pins σ H s) (n : NAt X.K H d L b k) (hl : L.length < sizeLine) (rv : RelV v r) (h : ∀ s', Inv X pins σ (upd H d (ndH d (putN L k b v))) s' → Q () s') :
    wpAny (model X.prog X.w) A (setItem (.ref d) (.ref b) r) Q E s := by
  obtain ⟨z, hd, xs, rel, dd⟩ := nd_of I n.e n.ak
  have hz : xs.length ≤ sizeLine := by rw [← Paired.length rel]; exact z
  have hl' : (putN L k b v).length ≤ sizeLine := Nat.le_trans (putN_len L k b v) hl
  refine wpAny_setItem_heap (knd := nkKind (intKind X.prog X.w) (k.map side)) (hsz := hz) hu ⟨n.kb.at_ I, rfl⟩ dd fun h' dd' hs => h _ ?_
  have he : ∃ q, h'.get? d = some q := let ⟨q, _, _, hq, _⟩ := dd'; ⟨q, hq⟩
  exact d_write I (by rw [n.e]; exact True.intro) hs he (nkd_ok hl' hd (rel.put rv) dd')
end
def tNNew : TE := fun _ H Q => ∀ p, H p = none → Q (.ref p) (upd H p (ndH p []))
def tNGet (K : PySem.W.Frag) (td ty : TE) : TE := fun σ H Q => td σ H fun x H1 => ty σ H1 fun y H2 => ∃ d b L k v, x = .ref d ∧ y = .ref b ∧ NAt K H2 d L b k ∧ valN L k = some v ∧ Q v H2
def tNIn (K : PySem.W.Frag) (ty td : TE) : TE := fun σ H Q => ty σ H fun y H1 => td σ H1 fun x H2 => ∃ d b L k, x = .ref d ∧ y = .ref b ∧ NAt K H2 d L b k ∧ Q (.bl (valN L k).isSome) H2
def tNNotIn (K : PySem.W.Frag) (ty td : TE) : TE := fun σ H Q => ty σ H fun y H1 => td σ H1 fun x H2 => ∃ d b L k, x = .ref d ∧ y = .ref b ∧ NAt K H2 d L b k ∧ Q (.bl (!(valN L k).isSome)) H2
def sNPut (K : PySem.W.Frag) (td ty tv : TE) : TS := fun D σ H => tv σ H fun v H1 => td σ H1 fun x H2 => ty σ H2 fun y H3 => ∃ d b L k, x = .ref d ∧ y = .ref b ∧ NAt K H3 d L b k ∧ L.length < sizeLine ∧ D.nx σ (upd H3 d (ndH d (putN L k b v)))
section
variable {X : Cx} {o i e value : Expr} {pos pos' tpos : Pos} {td ty tv : TE}
theorem nd_empty {P : Program} {w : World} {H : Hp} (h : Heap) (hb : sysModules < h.objs.size) : ObjOk P w H (h.push { cls := .type "dict", data := .dict #[] }) h.objs.size (ndH h.objs.size []) :=
  nkd_ok (sh := []) (xs := []) (Nat.zero_le _) (beq_eq_false_iff_ne.mpr (Ne.symm (Nat.ne_of_lt hb))) .nil (Heap.DictOfH.new h)
theorem pe_nnew : PE X (.Dict [] [] pos) tNNew := ⟨fun pins s σ H Q I h =>
  wpAny_Dict_empty ⟨.ref s.heap.objs.size, _, I.laid (a := s.heap.objs.size) (o := ndH s.heap.objs.size []) (t' := s.toks) (fun _ _ q => Heap.get?_push_of_some _ q) (Nat.le_refl _) (nd_empty s.heap I.big), rfl, h _ (I.hok.fresh (Nat.le_refl _))⟩⟩
theorem nd_type {pins : List (Addr × Obj)} {σ : L2.St} {H : Hp} {s : Shared} {d b : Addr} {L : NL} {k : NKy} (I : Inv X pins σ H s) (n : NAt X.K H d L b k) : s.TypeIs (.ref d) "dict" := by
  obtain ⟨_, _, _, _, dd⟩ := nd_of I n.e n.ak
  exact dd.typeIs
theorem pe_nget (hu : X.A.units + 2 < cLine) (ho : PE X o td) (hi : PE X i ty) (hs : NoSl i) : PE X (.Subscript o i pos) (tNGet X.K td ty) := by
  refine ⟨fun pins s σ H Q I h => ?_⟩
  refine subD_of PySem.F.slot_dict_getitem.lookup hs (thn (ho.run pins s σ H _ I h) fun u s1 ⟨x, H1, I1, rx, q1⟩ => thn (hi.run pins s1 σ H1 _ I1 q1) fun iv s2 ⟨y, H2, I2, ry, d, b, L, k, v, ex, ey, n, hv, q2⟩ => ?_)
  subst ex ey
  obtain rfl : u = Value.ref d := rx
  obtain rfl : iv = Value.ref b := ry
  exact ⟨nd_type I2 n, n_getItem hu I2 n hv fun w' s3 I3 rw' => ⟨v, H2, I3, rw', q2⟩⟩
theorem ps_nput (hu : X.A.units + 2 < cLine) (ho : PE X o td) (hi : PE X i ty) (hv : PE X value tv) (hs : swapsWith value (some (.Subscript o i pos')) pos.line X.env = pure false) :
    PS X (.Assign [.Subscript o i pos'] value pos) (sNPut X.K td ty tv) := by
  refine ⟨fun pins s σ H D I h => ?_⟩
  refine wpAny_Assign_Subscript (thn (hv.run pins s σ H _ I h) fun r s1 ⟨v, H1, I1, rv, q1⟩ => thn (ho.run pins s1 σ H1 _ I1 q1) fun u s2 ⟨x, H2, I2, rx, q2⟩ => thn (hi.run pins s2 σ H2 _ I2 q2) fun iv s3 ⟨y, H3, I3, ry, d, b, L, k, ex, ey, n, hl, q3⟩ => ?_) hs
  subst ex ey
  obtain rfl : u = Value.ref d := rx
  obtain rfl : iv = Value.ref b := ry
  exact n_setItem hu I3 n hl rv fun s4 I4 => ⟨σ, _, I4, q3⟩
end
end GL
namespace GL
open PySem L2
abbrev Fg := PySem.W.Frag
class Py (α : Type) where
  rep : Fg → Hp → V → α → Prop
  mono : ∀ {K : Fg} {H H' : Hp} {v : V} {x : α}, Same H H' → rep K H v x → rep K H' v x
instance : Py Int := ⟨fun _ _ v x => v = .int x, fun _ h => h⟩
instance : Py Bool := ⟨fun _ _ v x => v = .bl x, fun _ h => h⟩
instance : Py Str := ⟨fun _ _ v x => v = .str x, fun _ h => h⟩
instance : Py Unit := ⟨fun _ _ v _ => v = .non, fun _ h => h⟩
def RepL {α : Type} [Py α] (K : Fg) (S : Hp) : List V → List α → Prop
  | [], [] => True
  | v :: vs, x :: xs => Py.rep K S v x ∧ RepL K S vs xs
  | _, _ => False
section
variable {α : Type} [Py α] {K : Fg} {S S' : Hp}
theorem RepL.mono (e : Same S S') : ∀ {vs : List V} {xs : List α}, RepL K S vs xs → RepL K S' vs xs
  | [], [], _ => True.intro
  | _ :: _, _ :: _, h => ⟨Py.mono e h.1, RepL.mono e h.2⟩
  | [], _ :: _, h => h.elim
  | _ :: _, [], h => h.elim
theorem RepL.len : ∀ {vs : List V} {xs : List α}, RepL K S vs xs → vs.length = xs.length
  | [], [], _ => rfl
  | _ :: vs, _ :: xs, h => by rw [List.length_cons, List.length_cons, RepL.len h.2]
  | [], _ :: _, h => h.elim
  | _ :: _, [], h => h.elim
theorem RepL.app : ∀ {vs ws : List V} {xs ys : List α}, RepL K S vs xs → RepL K S ws ys → RepL K S (vs ++ ws) (xs ++ ys)
  | [], _, [], _, _, h => h
  | _ :: _, _, _ :: _, _, h, h' => ⟨h.1, RepL.app h.2 h'⟩
  | [], _, _ :: _, _, h, _ => h.elim
  | _ :: _, _, [], _, h, _ => h.elim
theorem RepL.snoc {vs : List V} {xs : List α} {v : V} {x : α} (h : RepL K S vs xs) (r : Py.rep K S v x) : RepL K S (vs ++ [v]) (xs ++ [x]) := h.app ⟨r, True.intro⟩
theorem RepL.get : ∀ {vs : List V} {xs : List α} {i : Nat} {x : α}, RepL K S vs xs → xs[i]? = some x → ∃ v, vs[i]? = some v ∧ Py.rep K S v x
  | [], [], _, _, _, e => by simp at e
  | v :: _, y :: _, 0, x, h, e => by
    simp only [List.getElem?_cons_zero, Option.some.injEq] at e
    subst e
    exact ⟨v, rfl, h.1⟩
  | _ :: vs, _ :: xs, i + 1, x, h, e => by
    obtain ⟨w, h1, h2⟩ := RepL.get (vs := vs) (xs := xs) (i := i) (x := x) h.2 (by simpa using e)
    exact ⟨w, by simpa using h1, h2⟩
  | [], _ :: _, _, _, h, _ => h.elim
  | _ :: _, [], _, _, h, _ => h.elim
theorem RepL.got {vs : List V} {xs : List α} {i : Nat} {v : V} (h : RepL K S vs xs) (e : vs[i]? = some v) : ∃ x, xs[i]? = some x ∧ Py.rep K S v x := by
  have hl := h.len
  have hi : i < xs.length := by
    rw [← hl]
    exact (List.getElem?_eq_some_iff.mp e).1
  obtain ⟨w, h1, h2⟩ := h.get (List.getElem?_eq_getElem hi)
  rw [h1] at e
  cases e
  exact ⟨_, List.getElem?_eq_getElem hi, h2⟩
theorem RepL.set : ∀ {vs : List V} {xs : List α} {i : Nat} {v : V} {x : α}, RepL K S vs xs → Py.rep K S v x → RepL K S (vs.set i v) (xs.set i x)
  | [], [], _, _, _, _, _ => True.intro
  | _ :: _, _ :: _, 0, _, _, h, r => ⟨r, h.2⟩
  | _ :: _, _ :: _, _ + 1, _, _, h, r => ⟨h.1, RepL.set h.2 r⟩
  | [], _ :: _, _, _, _, h, _ => h.elim
  | _ :: _, [], _, _, _, h, _ => h.elim
theorem RepL.drop : ∀ {vs : List V} {xs : List α} (n : Nat), RepL K S vs xs → RepL K S (vs.drop n) (xs.drop n)
  | _, _, 0, h => h
  | [], [], _ + 1, _ => True.intro
  | _ :: _, _ :: _, n + 1, h => RepL.drop n h.2
  | [], _ :: _, _, h => h.elim
  | _ :: _, [], _, h => h.elim
theorem RepL.take : ∀ {vs : List V} {xs : List α} (n : Nat), RepL K S vs xs → RepL K S (vs.take n) (xs.take n)
  | _, _, 0, _ => True.intro
  | [], [], _ + 1, _ => True.intro
  | _ :: _, _ :: _, n + 1, h => ⟨h.1, RepL.take n h.2⟩
  | [], _ :: _, _, h => h.elim
  | _ :: _, [], _, h => h.elim
theorem RepL.rep {vs : List V} {xs : List α} (h : RepL K S vs xs) : ∀ n : Nat, RepL K S (List.replicate n vs).flatten (List.replicate n xs).flatten
  | 0 => True.intro
  | n + 1 => by
    rw [List.replicate_succ, List.replicate_succ, List.flatten_cons, List.flatten_cons]
    exact h.app (RepL.rep h n)
end
theorem RepL.ints {K : Fg} {S : Hp} : ∀ {vs : List V} {xs : List Int}, RepL K S vs xs → vs = xs.map V.int
  | [], [], _ => rfl
  | _ :: _, _ :: _, h => by
    rw [List.map_cons, ← RepL.ints h.2, show _ = V.int _ from h.1]
  | [], _ :: _, h => h.elim
  | _ :: _, [], h => h.elim
theorem RepL.of_ints {K : Fg} {S : Hp} : ∀ (xs : List Int), RepL K S (xs.map V.int) xs
  | [] => True.intro
  | _ :: xs => ⟨rfl, RepL.of_ints xs⟩
theorem seqT {K : Fg} {H H' : Hp} {a : Addr} {xs : List V} (e : Same H H') (h : SqT K H a xs) : SqT K H' a xs := by
  rcases h with (h | ⟨o, h⟩) | h
  · exact .inl (.inl (e _ _ h))
  · exact .inl (.inr ⟨o, e _ _ h⟩)
  · exact .inr h
instance {α : Type} [Py α] : Py (List α) := ⟨fun K S v xs => ∃ p vs, v = .ref p ∧ S p = some (.lst vs) ∧ RepL K S vs xs, fun e ⟨p, vs, h1, h2, h3⟩ => ⟨p, vs, h1, e _ _ h2, h3.mono e⟩⟩
structure Tp (α : Type) where
  l : List α
  deriving DecidableEq
instance {α : Type} [Py α] : Py (Tp α) := ⟨fun K S v xs => ∃ p vs, v = .ref p ∧ SqT K S p vs ∧ RepL K S vs xs.l, fun e ⟨p, vs, h1, h2, h3⟩ => ⟨p, vs, h1, seqT e h2, h3.mono e⟩⟩
instance {α β : Type} [Py α] [Py β] : Py (α × β) := ⟨fun K S v x => ∃ p a b, v = .ref p ∧ SqT K S p [a, b] ∧ Py.rep K S a x.1 ∧ Py.rep K S b x.2, fun e ⟨p, a, b, h1, h2, h3, h4⟩ => ⟨p, a, b, h1, seqT e h2, Py.mono e h3, Py.mono e h4⟩⟩
structure T3 (α β γ : Type) where
  a : α
  b : β
  c : γ
  deriving DecidableEq
instance {α β γ : Type} [Py α] [Py β] [Py γ] : Py (T3 α β γ) := ⟨fun K S v x => ∃ p a b c, v = .ref p ∧ SqT K S p [a, b, c] ∧ Py.rep K S a x.a ∧ Py.rep K S b x.b ∧ Py.rep K S c x.c,
  fun e ⟨p, a, b, c, h1, h2, h3, h4, h5⟩ => ⟨p, a, b, c, h1, seqT e h2, Py.mono e h3, Py.mono e h4, Py.mono e h5⟩⟩
instance {α : Type} [Py α] : Py (Option α) := ⟨fun K S v x => match x with | none => v = .non | some y => Py.rep K S v y, fun {K H H' v x} e h => by cases x with | none => exact h | some y => exact Py.mono e h⟩
instance {α β : Type} [Py α] [Py β] : Py (Sum α β) := ⟨fun K S v x => match x with | .inl y => Py.rep K S v y | .inr y => Py.rep K S v y, fun {K H H' v x} e h => by cases x with | inl y => exact Py.mono e h | inr y => exact Py.mono e h⟩
structure Scr where
  l : List Int
instance : Py Scr := ⟨fun K S v x => ∃ p, v = .ref p ∧ SqL K S p (x.l.map V.int), fun e ⟨p, h1, h2⟩ => ⟨p, h1, e.seq h2⟩⟩
structure Dct (α : Type) where
  l : List (Int × α)
namespace Dct
variable {α : Type}
def get? (d : Dct α) (k : Int) : Option α := (d.l.find? fun kv => decide (kv.1 = k)).map (·.2)
def put (d : Dct α) (k : Int) (x : α) : Dct α := ⟨if d.l.any (fun kv => decide (kv.1 = k)) then d.l.map (fun kv => if kv.1 = k then (kv.1, x) else kv) else d.l ++ [(k, x)]⟩
def del (d : Dct α) (k : Int) : Dct α := ⟨d.l.filter fun kv => decide (kv.1 ≠ k)⟩
def emp : Dct α := ⟨[]⟩
end Dct
def RepD {α : Type} [Py α] (K : Fg) (S : Hp) : List (Key × V) → List (Int × α) → Prop
  | [], [] => True
  | kv :: kvs, x :: xs => kv.1 = .inl x.1 ∧ Py.rep K S kv.2 x.2 ∧ RepD K S kvs xs
  | _, _ => False
section
variable {α : Type} [Py α] {K : Fg} {S S' : Hp}
theorem RepD.mono (e : Same S S') : ∀ {kvs : List (Key × V)} {xs : List (Int × α)}, RepD K S kvs xs → RepD K S' kvs xs
  | [], [], _ => True.intro
  | _ :: _, _ :: _, h => ⟨h.1, Py.mono e h.2.1, RepD.mono e h.2.2⟩
  | [], _ :: _, h => h.elim
  | _ :: _, [], h => h.elim
theorem RepD.len : ∀ {kvs : List (Key × V)} {xs : List (Int × α)}, RepD K S kvs xs → kvs.length = xs.length
  | [], [], _ => rfl
  | _ :: _, _ :: _, h => by rw [List.length_cons, List.length_cons, RepD.len h.2.2]
  | [], _ :: _, h => h.elim
  | _ :: _, [], h => h.elim
theorem dec_inl (a b : Int) : decide ((Sum.inl a : Key) = Sum.inl b) = decide (a = b) := by
  by_cases e : a = b
  · subst e; simp
  · rw [decide_eq_false e, decide_eq_false (fun q => e (Sum.inl.inj q))]
theorem RepD.val : ∀ {kvs : List (Key × V)} {xs : List (Int × α)} (k : Int), RepD K S kvs xs → match (xs.find? fun kv => decide (kv.1 = k)).map (·.2) with
    | some x => ∃ v, valV kvs (Sum.inl k) = some v ∧ Py.rep K S v x
    | none => valV kvs (Sum.inl k) = none
  | [], [], _, _ => rfl
  | kv :: kvs, x :: xs, k, h => by
    obtain ⟨h1, h2, h3⟩ := h
    by_cases e : x.1 = k
    · have e1 : kv.1 = Sum.inl k := by rw [h1, e]
      rw [List.find?_cons, show decide (x.1 = k) = true from decide_eq_true e]
      exact ⟨kv.2, valV_pos e1, h2⟩
    · have e1 : ¬ kv.1 = Sum.inl k := by rw [h1]; exact fun q => e (Sum.inl.inj q)
      rw [List.find?_cons, show decide (x.1 = k) = false from decide_eq_false e, valV_neg e1]
      exact RepD.val k h3
  | [], _ :: _, _, h => h.elim
  | _ :: _, [], _, h => h.elim
theorem RepD.any : ∀ {kvs : List (Key × V)} {xs : List (Int × α)} (k : Int), RepD K S kvs xs → (kvs.any fun kv => decide (kv.1 = Sum.inl k)) = xs.any fun kv => decide (kv.1 = k)
  | [], [], _, _ => rfl
  | kv :: kvs, x :: xs, k, h => by
    rw [List.any_cons, List.any_cons, RepD.any k h.2.2, h.1, dec_inl]
  | [], _ :: _, _, h => h.elim
  | _ :: _, [], _, h => h.elim
theorem RepD.repl {v : V} {y : α} (k : Int) (r : Py.rep K S v y) : ∀ {kvs : List (Key × V)} {xs : List (Int × α)}, RepD K S kvs xs →
    RepD K S (kvs.map fun kv => if kv.1 = Sum.inl k then (kv.1, v) else kv) (xs.map fun kv => if kv.1 = k then (kv.1, y) else kv)
  | [], [], _ => True.intro
  | kv :: kvs, x :: xs, h => by
    obtain ⟨h1, h2, h3⟩ := h
    rw [List.map_cons, List.map_cons]
    by_cases e : x.1 = k
    · have e1 : kv.1 = Sum.inl k := by rw [h1, e]
      rw [if_pos e1, if_pos e]
      exact ⟨h1, r, RepD.repl k r h3⟩
    · have e1 : ¬ kv.1 = Sum.inl k := by rw [h1]; exact fun q => e (Sum.inl.inj q)
      rw [if_neg e1, if_neg e]
      exact ⟨h1, h2, RepD.repl k r h3⟩
  | [], _ :: _, h => h.elim
  | _ :: _, [], h => h.elim
theorem RepD.snoc {v : V} {y : α} (k : Int) (r : Py.rep K S v y) : ∀ {kvs : List (Key × V)} {xs : List (Int × α)}, RepD K S kvs xs → RepD K S (kvs ++ [(Sum.inl k, v)]) (xs ++ [(k, y)])
  | [], [], _ => ⟨rfl, r, True.intro⟩
  | _ :: _, _ :: _, h => ⟨h.1, h.2.1, RepD.snoc k r h.2.2⟩
  | [], _ :: _, h => h.elim
  | _ :: _, [], h => h.elim
theorem RepD.put {v : V} {y : α} (k : Int) (r : Py.rep K S v y) {kvs : List (Key × V)} {d : Dct α} (h : RepD K S kvs d.l) : RepD K S (putK kvs (Sum.inl k) v) (d.put k y).l := by
  unfold putK Dct.put
  rw [h.any k]
  by_cases e : (d.l.any fun kv => decide (kv.1 = k)) = true
  · rw [if_pos e, if_pos e]
    exact h.repl k r
  · rw [if_neg e, if_neg e]
    exact h.snoc k r
theorem RepD.del (k : Int) : ∀ {kvs : List (Key × V)} {xs : List (Int × α)}, RepD K S kvs xs → RepD K S (dropK kvs (Sum.inl k)) (xs.filter fun kv => decide (kv.1 ≠ k))
  | [], [], _ => True.intro
  | kv :: kvs, x :: xs, h => by
    obtain ⟨h1, h2, h3⟩ := h
    have ih := RepD.del k h3
    by_cases e : x.1 = k
    · have e1 : kv.1 = Sum.inl k := by rw [h1, e]
      rw [dropK_pos e1, List.filter_cons, if_neg (by simp [e])]
      exact ih
    · have e1 : ¬ kv.1 = Sum.inl k := by rw [h1]; exact fun q => e (Sum.inl.inj q)
      rw [dropK_neg e1, List.filter_cons, if_pos (by simp [e])]
      exact ⟨h1, h2, ih⟩
  | [], _ :: _, h => h.elim
  | _ :: _, [], h => h.elim
end
instance {α : Type} [Py α] : Py (Dct α) := ⟨fun K S v d => ∃ p kvs, v = .ref p ∧ S p = some (.dK kvs) ∧ RepD K S kvs d.l, fun e ⟨p, vs, h1, h2, h3⟩ => ⟨p, vs, h1, e _ _ h2, h3.mono e⟩⟩
class Own (α : Type) where
  own : Fg → Hp → Hp → V → List Addr → α → Prop
  mono : ∀ {K : Fg} {S S' H H' : Hp} {v : V} {ps : List Addr} {x : α}, Same S S' → (∀ p ∈ ps, H' p = H p) → own K S H v ps x → own K S' H' v ps x
instance {α : Type} [Py α] : Own (List α) := ⟨fun K S H v ps xs => ∃ p vs, v = .ref p ∧ ps = [p] ∧ H p = some (.lst vs) ∧ RepL K S vs xs, fun {K S S' H H' v ps x} e a ⟨p, vs, h1, h2, h3, h4⟩ =>
  ⟨p, vs, h1, h2, by rw [a p (by rw [h2]; exact List.mem_singleton.mpr rfl)]; exact h3, h4.mono e⟩⟩
instance {α : Type} [Py α] : Own (Dct α) := ⟨fun K S H v ps d => ∃ p kvs, v = .ref p ∧ ps = [p] ∧ H p = some (.dK kvs) ∧ RepD K S kvs d.l, fun {K S S' H H' v ps x} e a ⟨p, vs, h1, h2, h3, h4⟩ =>
  ⟨p, vs, h1, h2, by rw [a p (by rw [h2]; exact List.mem_singleton.mpr rfl)]; exact h3, h4.mono e⟩⟩
structure Spr where
  a : Addr
  z : Int
instance : Own Spr := ⟨fun K S H v ps x => v = .ref x.a ∧ ps = [x.a] ∧ H x.a = some (.lst [.int x.z]), fun {K S S' H H' v ps x} e a ⟨h1, h2, h3⟩ =>
  ⟨h1, h2, by rw [a x.a (by rw [h2]; exact List.mem_singleton.mpr rfl)]; exact h3⟩⟩
class Anch (ω : Type) [Own ω] where
  fp : ω → V × List Addr
  at_ : ∀ {K : Fg} {S H : Hp} {v : V} {ps : List Addr} {x : ω}, Own.own K S H v ps x → (v, ps) = fp x
instance : Anch Spr := ⟨fun x => (.ref x.a, [x.a]), fun ⟨h1, h2, _⟩ => by rw [h1, h2]⟩
inductive Sl : Type 1
  | no
  | im {α : Type} [Py α] (x : α)
  | ow {α : Type} [Own α] (x : α)
def SlOk (K : Fg) (S H : Hp) (sv : Option (Option V)) (ps : List Addr) : Sl → Prop
  | .no => True
  | @Sl.im _ inst x => ∃ v, sv = some (some v) ∧ inst.rep K S v x
  | @Sl.ow _ inst x => ∃ v, sv = some (some v) ∧ inst.own K S H v ps x
structure Kn (K : Fg) (B S0 S : Hp) (σ : St) (H : Hp) (F : Nat → List Addr) (G : List Sl) : Prop where
  s0 : Same S0 S
  sub : Same S H
  keep : Same B H
  clean : ∀ p o, B p = some o → S p = S0 p
  off : ∀ i p, p ∈ F i → S p = none ∧ B p = none ∧ ∃ o, H p = some o
  dj : ∀ i j p, p ∈ F i → p ∈ F j → i = j
  len : G.length = σ.length
  sl : ∀ i s, G[i]? = some s → SlOk K S H σ[i]? (F i) s
structure Grow (S H S' H' : Hp) : Prop where
  s : Same S S'
  sub : Same S' H'
  h : Same H H'
  cl : ∀ p o, H p = some o → S' p = S p
theorem Grow.refl {S H : Hp} (e : Same S H) : Grow S H S H := ⟨Same.refl _, e, Same.refl _, fun _ _ _ => rfl⟩
theorem Grow.trans {S H S1 H1 S2 H2 : Hp} (a : Grow S H S1 H1) (b : Grow S1 H1 S2 H2) : Grow S H S2 H2 :=
  ⟨a.s.trans b.s, b.sub, a.h.trans b.h, fun p o e => (b.cl p o (a.h p o e)).trans (a.cl p o e)⟩
theorem same_new {H : Hp} {p : Addr} {o : HO} (h : H p = none) : Same H (upd H p o) := fun b x e => by
  rw [upd_ne (ne_of_none e h)]
  exact e
theorem Grow.new {S H : Hp} {p : Addr} {o : HO} (e : Same S H) (h : H p = none) : Grow S H (upd S p o) (upd H p o) := by
  refine ⟨same_new (e.free h), fun b x q => ?_, same_new h, fun b x q => upd_ne (ne_of_none q h)⟩
  by_cases hb : b = p
  · subst hb
    rw [upd_same] at q ⊢
    exact q
  · rw [upd_ne hb] at q ⊢
    exact e b x q
theorem Grow.raw {S H : Hp} {p : Addr} {o : HO} (e : Same S H) (h : H p = none) : Grow S H S (upd H p o) := ⟨Same.refl _, e.trans (same_new h), same_new h, fun _ _ _ => rfl⟩
section
variable {K : Fg} {B S0 S S' : Hp} {σ : St} {H H' : Hp} {F : Nat → List Addr} {G : List Sl}
theorem Kn.grow (k : Kn K B S0 S σ H F G) (g : Grow S H S' H') : Kn K B S0 S' σ H' F G := by
  refine ⟨k.s0.trans g.s, g.sub, k.keep.trans g.h, fun p o e => (g.cl p o (k.keep p o e)).trans (k.clean p o e), fun i p hp => ?_, k.dj, k.len, fun i s e => ?_⟩
  · obtain ⟨h1, h2, o, h3⟩ := k.off i p hp
    exact ⟨(g.cl p o h3).trans h1, h2, o, g.h p o h3⟩
  · have q := k.sl i s e
    cases s with
    | no => exact True.intro
    | im x =>
      obtain ⟨v, h1, h2⟩ := q
      exact ⟨v, h1, Py.mono g.s h2⟩
    | ow x =>
      obtain ⟨v, h1, h2⟩ := q
      refine ⟨v, h1, Own.mono g.s (fun p hp => ?_) h2⟩
      obtain ⟨_, _, o, h3⟩ := k.off i p hp
      rw [h3]
      exact g.h p o h3
theorem Kn.new {p : Addr} {o : HO} (k : Kn K B S0 S σ H F G) (h : H p = none) : Kn K B S0 (upd S p o) σ (upd H p o) F G := k.grow (Grow.new k.sub h)
theorem Kn.raw {p : Addr} {o : HO} (k : Kn K B S0 S σ H F G) (h : H p = none) : Kn K B S0 S σ (upd H p o) F G := k.grow (Grow.raw k.sub h)
theorem Kn.settle {p : Addr} {o : HO} (k : Kn K B S0 S σ H F G) (h : H p = some o) (hs : S p = none) (hb : B p = none) (hf : ∀ i, p ∉ F i) : Kn K B S0 (upd S p o) σ H F G := by
  have e : Same S (upd S p o) := same_new hs
  refine ⟨k.s0.trans e, fun b x q => ?_, k.keep, fun b x q => ?_, fun i b hb' => ?_, k.dj, k.len, fun i s q => ?_⟩
  · by_cases hbp : b = p
    · subst hbp
      rw [upd_same] at q
      rw [h, q]
    · rw [upd_ne hbp] at q
      exact k.sub b x q
  · rw [upd_ne (ne_of_none q hb)]
    exact k.clean b x q
  · obtain ⟨h1, h2, h3⟩ := k.off i b hb'
    have ne : b ≠ p := fun z => hf i (z ▸ hb')
    exact ⟨by rw [upd_ne ne]; exact h1, h2, h3⟩
  · have z := k.sl i s q
    cases s with
    | no => exact True.intro
    | im x =>
      obtain ⟨v, h1, h2⟩ := z
      exact ⟨v, h1, Py.mono e h2⟩
    | ow x =>
      obtain ⟨v, h1, h2⟩ := z
      exact ⟨v, h1, Own.mono e (fun _ _ => rfl) h2⟩
theorem Kn.free (k : Kn K B S0 S σ H F G) {p : Addr} (h : H p = none) : S p = none ∧ B p = none ∧ ∀ i, p ∉ F i := ⟨k.sub.free h, k.keep.free h, fun i hp => by
  obtain ⟨_, _, o, e⟩ := k.off i p hp
  rw [h] at e
  cases e⟩
theorem set_get.{u} {α : Type u} {l : List α} {i j : Nat} {x y : α} (h : (l.set i x)[j]? = some y) : (j = i ∧ y = x) ∨ (j ≠ i ∧ l[j]? = some y) := by
  by_cases e : j = i
  · subst e
    by_cases hl : j < l.length
    · rw [List.getElem?_set_self hl] at h
      exact .inl ⟨rfl, (Option.some.inj h).symm⟩
    · rw [List.getElem?_eq_none (by rw [List.length_set]; omega)] at h
      cases h
  · rw [List.getElem?_set_ne (fun z => e z.symm)] at h
    exact .inr ⟨e, h⟩
theorem isSome_lt.{u} {α : Type u} {l : List α} {i : Nat} (h : l[i]?.isSome = true) : i < l.length := by
  by_cases e : i < l.length
  · exact e
  · rw [List.getElem?_eq_none (by omega)] at h
    cases h
theorem Kn.set {α : Type} [Py α] {x : α} {v : V} {i : Nat} (k : Kn K B S0 S σ H F G) (r : Py.rep K S v x) (hi : G[i]?.isSome = true) : Kn K B S0 S (σ.set i (some v)) H F (G.set i (.im x)) := by
  have hl := isSome_lt hi
  refine ⟨k.s0, k.sub, k.keep, k.clean, k.off, k.dj, by rw [List.length_set, List.length_set]; exact k.len, fun j s e => ?_⟩
  rcases set_get e with ⟨rfl, rfl⟩ | ⟨ne, e⟩
  · exact ⟨v, List.getElem?_set_self (by rw [← k.len]; exact hl), r⟩
  · rw [List.getElem?_set_ne (fun z => ne z.symm)]
    exact k.sl j s e
theorem Kn.setNo {v : Option V} {i : Nat} (k : Kn K B S0 S σ H F G) : Kn K B S0 S (σ.set i v) H F (G.set i .no) := by
  refine ⟨k.s0, k.sub, k.keep, k.clean, k.off, k.dj, by rw [List.length_set, List.length_set]; exact k.len, fun j s e => ?_⟩
  rcases set_get e with ⟨rfl, rfl⟩ | ⟨ne, e⟩
  · exact True.intro
  · rw [List.getElem?_set_ne (fun z => ne z.symm)]
    exact k.sl j s e
def upF (F : Nat → List Addr) (i : Nat) (ps : List Addr) : Nat → List Addr := fun j => if j = i then ps else F j
theorem upF_self {i : Nat} {ps : List Addr} : upF F i ps i = ps := if_pos rfl
theorem upF_ne {i j : Nat} {ps : List Addr} (h : j ≠ i) : upF F i ps j = F j := if_neg h
theorem Kn.setOwn {α : Type} [Own α] {x : α} {v : V} {i : Nat} {p : Addr} (k : Kn K B S0 S σ H F G) (r : Own.own K S H v [p] x) (hi : G[i]?.isSome = true) (hs : S p = none) (hb : B p = none) (hp : ∃ o, H p = some o) (hf : ∀ j, p ∉ F j) :
    Kn K B S0 S (σ.set i (some v)) H (upF F i [p]) (G.set i (.ow x)) := by
  have hl := isSome_lt hi
  refine ⟨k.s0, k.sub, k.keep, k.clean, fun j q hq => ?_, fun a b q ha hb' => ?_, by rw [List.length_set, List.length_set]; exact k.len, fun j s e => ?_⟩
  · by_cases e : j = i
    · subst e
      rw [upF_self] at hq
      cases List.mem_singleton.mp hq
      exact ⟨hs, hb, hp⟩
    · rw [upF_ne e] at hq
      exact k.off j q hq
  · by_cases ea : a = i
    · by_cases eb : b = i
      · rw [ea, eb]
      · rw [ea, upF_self] at ha
        rw [upF_ne eb] at hb'
        cases List.mem_singleton.mp ha
        exact absurd hb' (hf b)
    · rw [upF_ne ea] at ha
      by_cases eb : b = i
      · rw [eb, upF_self] at hb'
        cases List.mem_singleton.mp hb'
        exact absurd ha (hf a)
      · rw [upF_ne eb] at hb'
        exact k.dj a b q ha hb'
  · rcases set_get e with ⟨rfl, rfl⟩ | ⟨ne, e⟩
    · rw [upF_self]
      exact ⟨v, List.getElem?_set_self (by rw [← k.len]; exact hl), r⟩
    · rw [List.getElem?_set_ne (fun z => ne z.symm), upF_ne ne]
      exact k.sl j s e
theorem Kn.mut {α : Type} [Own α] {x : α} {v : V} {i : Nat} (k : Kn K B S0 S σ H F G) (hi : σ[i]? = some (some v)) (h1 : ∀ q, q ∉ F i → H' q = H q) (h2 : ∀ q ∈ F i, ∃ o, H' q = some o) (r : Own.own K S H' v (F i) x) :
    Kn K B S0 S σ H' F (G.set i (.ow x)) := by
  refine ⟨k.s0, fun q o e => ?_, fun q o e => ?_, k.clean, fun j q hq => ?_, k.dj, by rw [List.length_set]; exact k.len, fun j s e => ?_⟩
  · rw [h1 q fun z => by rw [(k.off i q z).1] at e; cases e]
    exact k.sub q o e
  · rw [h1 q fun z => by rw [(k.off i q z).2.1] at e; cases e]
    exact k.keep q o e
  · obtain ⟨a, b, o, c⟩ := k.off j q hq
    refine ⟨a, b, ?_⟩
    by_cases e : q ∈ F i
    · exact h2 q e
    · exact ⟨o, by rw [h1 q e]; exact c⟩
  · rcases set_get e with ⟨rfl, rfl⟩ | ⟨ne, e⟩
    · exact ⟨v, hi, r⟩
    · have z := k.sl j s e
      cases s with
      | no => exact True.intro
      | im y => exact z
      | ow y =>
        obtain ⟨u, a, b⟩ := z
        exact ⟨u, a, Own.mono (Same.refl _) (fun p hp => h1 p fun w => ne (k.dj j i p hp w)) b⟩
inductive Le : List Sl → List Sl → Prop
  | n : Le [] []
  | k {s : Sl} {G G' : List Sl} : Le G G' → Le (s :: G) (s :: G')
  | d {s : Sl} {G G' : List Sl} : Le G G' → Le (.no :: G) (s :: G')
theorem Le.get : ∀ {G G' : List Sl} {i : Nat} {s : Sl}, Le G G' → G[i]? = some s → s = .no ∨ G'[i]? = some s
  | _, _, _, _, .n, e => by simp at e
  | _, _, 0, s, .k _, e => .inr e
  | _, _, 0, s, .d _, e => .inl (Option.some.inj (by simpa using e)).symm
  | _, _, i + 1, s, .k h, e => by simpa using Le.get (i := i) h (by simpa using e)
  | _, _, i + 1, s, .d h, e => by simpa using Le.get (i := i) h (by simpa using e)
theorem Le.length : ∀ {G G' : List Sl}, Le G G' → G.length = G'.length
  | _, _, .n => rfl
  | _, _, .k h => by rw [List.length_cons, List.length_cons, h.length]
  | _, _, .d h => by rw [List.length_cons, List.length_cons, h.length]
theorem Le.refl : ∀ (G : List Sl), Le G G
  | [] => .n
  | _ :: G => .k (Le.refl G)
theorem Kn.le {G' : List Sl} (k : Kn K B S0 S σ H F G) (h : Le G' G) : Kn K B S0 S σ H F G' :=
  ⟨k.s0, k.sub, k.keep, k.clean, k.off, k.dj, h.length.trans k.len, fun i s e => by
    rcases h.get e with rfl | e
    · exact True.intro
    · exact k.sl i s e⟩
theorem Kn.im {α : Type} [Py α] {x : α} {i : Nat} (k : Kn K B S0 S σ H F G) (h : G[i]? = some (.im x)) : ∃ v, σ[i]? = some (some v) ∧ Py.rep K S v x := k.sl i _ h
theorem Kn.ow {α : Type} [Own α] {x : α} {i : Nat} (k : Kn K B S0 S σ H F G) (h : G[i]? = some (.ow x)) : ∃ v, σ[i]? = some (some v) ∧ Own.own K S H v (F i) x := k.sl i _ h
end
end GL
namespace GL
open PySem L2
section
variable {α : Type}
def EvX [Py α] (K : Fg) (te : TE) (G : List Sl) (x : α) (G' : List Sl) : Prop :=
  ∀ B S0 S σ H F, Kn K B S0 S σ H F G → ∀ Q : VK, (∀ v S' H', Same S S' → Kn K B S0 S' σ H' F G' → Py.rep K S' v x → Q v H') → te σ H Q
def EvL [Py α] (K : Fg) (te : TE) (G : List Sl) (xs : List α) (G' : List Sl) : Prop :=
  ∀ B S0 S σ H F, Kn K B S0 S σ H F G → ∀ Q : VK, (∀ p vs S' H', Same S S' → Kn K B S0 S' σ H' F G' → S' p = none → B p = none → (∀ j, p ∉ F j) → H' p = some (.lst vs) → RepL K S' vs xs → Q (.ref p) H') → te σ H Q
def Rdl [Py α] (K : Fg) (S : Hp) (σ : St) (G : List Sl) (v : V) (xs : List α) : Prop := Py.rep K S v xs ∨ ∃ i : Nat, σ[i]? = some (some v) ∧ G[i]? = some (Sl.ow xs)
def EvC [Py α] (K : Fg) (te : TE) (G : List Sl) (xs : List α) (G' : List Sl) : Prop :=
  ∀ B S0 S σ H F, Kn K B S0 S σ H F G → ∀ Q : VK, (∀ v S' H', Same S S' → Kn K B S0 S' σ H' F G' → Rdl K S' σ G' v xs → Q v H') → te σ H Q
def Rdd [Py α] (K : Fg) (S : Hp) (σ : St) (G : List Sl) (v : V) (xs : Dct α) : Prop := Py.rep K S v xs ∨ ∃ i : Nat, σ[i]? = some (some v) ∧ G[i]? = some (Sl.ow xs)
def EvD [Py α] (K : Fg) (te : TE) (G : List Sl) (xs : Dct α) (G' : List Sl) : Prop :=
  ∀ B S0 S σ H F, Kn K B S0 S σ H F G → ∀ Q : VK, (∀ v S' H', Same S S' → Kn K B S0 S' σ H' F G' → Rdd K S' σ G' v xs → Q v H') → te σ H Q
def EvLs [Py α] (K : Fg) (ta : TA) (G : List Sl) (xs : List α) (G' : List Sl) : Prop :=
  ∀ B S0 S σ H F, Kn K B S0 S σ H F G → ∀ Q : List V → Hp → Prop, (∀ vs S' H', Same S S' → Kn K B S0 S' σ H' F G' → RepL K S' vs xs → Q vs H') → ta σ H Q
class PyA (α : Type) where
  rep : Fg → Hp → List V → α → Prop
  mono : ∀ {K : Fg} {H H' : Hp} {vs : List V} {x : α}, Same H H' → rep K H vs x → rep K H' vs x
  n : Nat
  len : ∀ {K : Fg} {H : Hp} {vs : List V} {x : α}, rep K H vs x → vs.length = n
instance : PyA Unit := ⟨fun _ _ vs _ => vs = [], fun _ h => h, 0, fun h => by rw [h]; rfl⟩
instance {β : Type} [Py α] [PyA β] : PyA (α × β) := ⟨fun K S vs x => ∃ v ws, vs = v :: ws ∧ Py.rep K S v x.1 ∧ PyA.rep K S ws x.2, fun e ⟨v, ws, h1, h2, h3⟩ => ⟨v, ws, h1, Py.mono e h2, PyA.mono e h3⟩,
  PyA.n β + 1, fun ⟨v, ws, h1, h2, h3⟩ => by rw [h1, List.length_cons, PyA.len h3]⟩
def EvA [PyA α] (K : Fg) (ta : TA) (G : List Sl) (x : α) (G' : List Sl) : Prop :=
  ∀ B S0 S σ H F, Kn K B S0 S σ H F G → ∀ Q : List V → Hp → Prop, (∀ vs S' H', Same S S' → Kn K B S0 S' σ H' F G' → PyA.rep K S' vs x → Q vs H') → ta σ H Q
end
def EvT (K : Fg) (tt : TT) (G : List Sl) (b : Bool) (G' : List Sl) : Prop :=
  ∀ B S0 S σ H F, Kn K B S0 S σ H F G → ∀ Q : Bool → Hp → Prop, (∀ S' H', Same S S' → Kn K B S0 S' σ H' F G' → Q b H') → tt σ H Q
def At (K : Fg) (B S0 : Hp) (P : St → Hp → Prop) (G : List Sl) : Prop := ∀ S σ H F, Kn K B S0 S σ H F G → P σ H
def RT {α : Type} [Py α] (K : Fg) (B S0 : Hp) (rt : VK) (x : α) (G : List Sl) : Prop := ∀ S σ H F v, Kn K B S0 S σ H F G → Py.rep K S v x → rt v H
structure Reb (B S0 S1 : Hp) : Prop where
  s : Same S0 S1
  c : ∀ p o, B p = some o → S1 p = S0 p
theorem Reb.refl {B S0 : Hp} : Reb B S0 S0 := ⟨Same.refl _, fun _ _ _ => rfl⟩
theorem Reb.trans {B S0 S1 S2 : Hp} (a : Reb B S0 S1) (b : Reb B S1 S2) : Reb B S0 S2 := ⟨a.s.trans b.s, fun p o e => (b.c p o e).trans (a.c p o e)⟩
section
variable {K : Fg} {B S0 S1 S S' : Hp} {σ : St} {H H' : Hp} {F : Nat → List Addr} {G G' : List Sl}
theorem Kn.unreb (r : Reb B S0 S1) (k : Kn K B S1 S σ H F G) : Kn K B S0 S σ H F G :=
  ⟨r.s.trans k.s0, k.sub, k.keep, fun p o e => (k.clean p o e).trans (r.c p o e), k.off, k.dj, k.len, k.sl⟩
theorem Kn.reb (k : Kn K B S0 S σ H F G) : Kn K B S S σ H F G := ⟨Same.refl _, k.sub, k.keep, fun _ _ _ => rfl, k.off, k.dj, k.len, k.sl⟩
theorem Kn.rebOf (k : Kn K B S0 S σ H F G) : Reb B S0 S := ⟨k.s0, k.clean⟩
theorem At.reb {P : St → Hp → Prop} (r : Reb B S0 S1) (h : At K B S0 P G) : At K B S1 P G := fun S σ H F k => h S σ H F (k.unreb r)
theorem RT.reb {α : Type} [Py α] {rt : VK} {x : α} (r : Reb B S0 S1) (h : RT K B S0 rt x G) : RT K B S1 rt x G := fun S σ H F v k q => h S σ H F v (k.unreb r) q
def Mid (K : Fg) (B S0 : Hp) (P : List Sl → Prop) (σ : St) (H : Hp) : Prop := ∃ S F G, Kn K B S0 S σ H F G ∧ P G
theorem at_mid {P : List Sl → Prop} (h : Le G' G) (p : P G') : At K B S0 (Mid K B S0 P) G := fun S σ H F k => ⟨S, F, G', k.le h, p⟩
section
variable {α : Type} [Py α]
theorem Rdl.at {v : V} {xs : List α} (h : Rdl K S σ G v xs) (k : Kn K B S0 S σ H F G) : ∃ p vs, v = .ref p ∧ H p = some (.lst vs) ∧ RepL K S vs xs := by
  rcases h with ⟨p, vs, h1, h2, h3⟩ | ⟨i, h1, h2⟩
  · exact ⟨p, vs, h1, k.sub _ _ h2, h3⟩
  · obtain ⟨w, e, p, vs, q1, q2, q3, q4⟩ := k.ow h2
    rw [h1] at e
    cases e
    exact ⟨p, vs, q1, q3, q4⟩
theorem Rdl.mono {v : V} {xs : List α} (e : Same S S') (h : Rdl K S σ G v xs) : Rdl K S' σ G v xs := h.elim (fun h => .inl (Py.mono e h)) .inr
theorem Rdd.at {v : V} {xs : Dct α} (h : Rdd K S σ G v xs) (k : Kn K B S0 S σ H F G) : ∃ p kvs, v = .ref p ∧ H p = some (.dK kvs) ∧ RepD K S kvs xs.l := by
  rcases h with ⟨p, vs, h1, h2, h3⟩ | ⟨i, h1, h2⟩
  · exact ⟨p, vs, h1, k.sub _ _ h2, h3⟩
  · obtain ⟨w, e, p, vs, q1, q2, q3, q4⟩ := k.ow h2
    rw [h1] at e
    cases e
    exact ⟨p, vs, q1, q3, q4⟩
theorem Rdd.mono {v : V} {xs : Dct α} (e : Same S S') (h : Rdd K S σ G v xs) : Rdd K S' σ G v xs := h.elim (fun h => .inl (Py.mono e h)) .inr
end
section
variable {α β γ : Type} [Py α] [Py β] [Py γ] {G1 G2 G3 : List Sl} {ta tb tc te : TE} {x : α} {y : β} {z : γ} {i j : Nat}
theorem ev_var (h : G[i]? = some (.im x)) : EvX K (tVar i) G x G := fun B S0 S σ H F k Q q => by
  obtain ⟨v, h1, h2⟩ := k.im h
  exact ⟨v, h1, q v S H (Same.refl _) k h2⟩
theorem ev_int {n : Int} : EvX K (tC (.int n)) G n G := fun B S0 S σ H F k Q q => q _ S H (Same.refl _) k rfl
theorem ev_bl {n : Bool} : EvX K (tC (.bl n)) G n G := fun B S0 S σ H F k Q q => q _ S H (Same.refl _) k rfl
theorem ev_str {n : Str} : EvX K (tC (.str n)) G n G := fun B S0 S σ H F k Q q => q _ S H (Same.refl _) k rfl
theorem ev_none : EvX K (tC .non) G (none : Option α) G := fun B S0 S σ H F k Q q => q _ S H (Same.refl _) k rfl
theorem EvX.some (h : EvX K te G x G1) : EvX K te G (some x) G1 := fun B S0 S σ H F k Q q => h B S0 S σ H F k Q fun v S' H' e k' r => q v S' H' e k' r
theorem EvX.inl (h : EvX K te G x G1) : EvX K te G (Sum.inl x : Sum α β) G1 := fun B S0 S σ H F k Q q => h B S0 S σ H F k Q fun v S' H' e k' r => q v S' H' e k' r
theorem EvX.inr (h : EvX K te G y G1) : EvX K te G (Sum.inr y : Sum α β) G1 := fun B S0 S σ H F k Q q => h B S0 S σ H F k Q fun v S' H' e k' r => q v S' H' e k' r
theorem EvX.is {x' : α} (h : EvX K te G x G1) (e : x = x') : EvX K te G x' G1 := e ▸ h
theorem EvX.c {xs : List α} (h : EvX K te G xs G1) : EvC K te G xs G1 := fun B S0 S σ H F k Q q => h B S0 S σ H F k Q fun v S' H' e k' r => q v S' H' e k' (.inl r)
theorem EvX.d {xs : Dct α} (h : EvX K te G xs G1) : EvD K te G xs G1 := fun B S0 S σ H F k Q q => h B S0 S σ H F k Q fun v S' H' e k' r => q v S' H' e k' (.inl r)
theorem EvL.ev {xs : List α} (h : EvL K te G xs G1) : EvX K te G xs G1 := fun B S0 S σ H F k Q q => h B S0 S σ H F k Q fun p vs S' H' e k' hs hb hf hp r =>
  q _ (upd S' p (.lst vs)) H' (e.trans (same_new hs)) (k'.settle hp hs hb hf) ⟨p, vs, rfl, upd_same, r.mono (same_new hs)⟩
theorem EvL.c {xs : List α} (h : EvL K te G xs G1) : EvC K te G xs G1 := h.ev.c
theorem ev_i0 {f : Int → Int → Int} {a b : Int} (ha : EvX K ta G a G1) (hb : EvX K tb G1 b G2) : EvX K (tOp (rI0 fun i j => .int (f i j)) ta tb) G (f a b) G2 := fun B S0 S σ H F k Q q =>
  ha B S0 S σ H F k _ fun v S1 H1 e1 k1 r1 => hb B S0 S1 σ H1 F k1 _ fun u S2 H2 e2 k2 r2 => ⟨a, b, r1, r2, q _ S2 H2 (e1.trans e2) k2 rfl⟩
theorem ev_iC {C : Int → Int → Prop} {f : Int → Int → Int} {a b : Int} (ha : EvX K ta G a G1) (hb : EvX K tb G1 b G2) (hc : C a b) : EvX K (tOp (rI C fun i j => .int (f i j)) ta tb) G (f a b) G2 := fun B S0 S σ H F k Q q =>
  ha B S0 S σ H F k _ fun v S1 H1 e1 k1 r1 => hb B S0 S1 σ H1 F k1 _ fun u S2 H2 e2 k2 r2 => ⟨a, b, r1, r2, hc, q _ S2 H2 (e1.trans e2) k2 rfl⟩
theorem ev_b0 {f : Int → Int → Bool} {a b : Int} (ha : EvX K ta G a G1) (hb : EvX K tb G1 b G2) : EvX K (tOp (rI0 fun i j => .bl (f i j)) ta tb) G (f a b) G2 := fun B S0 S σ H F k Q q =>
  ha B S0 S σ H F k _ fun v S1 H1 e1 k1 r1 => hb B S0 S1 σ H1 F k1 _ fun u S2 H2 e2 k2 r2 => ⟨a, b, r1, r2, q _ S2 H2 (e1.trans e2) k2 rfl⟩
class Sc (α : Type) [Py α] where
  val : α → V
  of : ∀ {K : Fg} {S : Hp} {v : V} {x : α}, Py.rep K S v x → v = val x
  inj : ∀ {x y : α}, val x = val y → x = y
  sc : ∀ x y : α, scal (val x) (val y) = true
instance : Sc Int := ⟨V.int, fun h => h, fun h => V.int.inj h, fun _ _ => rfl⟩
instance : Sc Bool := ⟨V.bl, fun h => h, fun h => V.bl.inj h, fun _ _ => rfl⟩
instance : Sc Str := ⟨V.str, fun h => h, fun h => V.str.inj h, fun _ _ => rfl⟩
theorem Sc.dec {δ : Type} [Py δ] [Sc δ] [DecidableEq δ] (x y : δ) : decide (Sc.val x = Sc.val y) = decide (x = y) := by
  by_cases e : x = y
  · rw [e, decide_eq_true rfl, decide_eq_true rfl]
  · rw [decide_eq_false e, decide_eq_false fun q => e (Sc.inj q)]
theorem ev_eq {δ : Type} [Py δ] [Sc δ] [DecidableEq δ] {a b : δ} (ha : EvX K ta G a G1) (hb : EvX K tb G1 b G2) : EvX K (tOp rEq ta tb) G (decide (a = b)) G2 := fun B S0 S σ H F k Q q =>
  ha B S0 S σ H F k _ fun v S1 H1 e1 k1 r1 => hb B S0 S1 σ H1 F k1 _ fun u S2 H2 e2 k2 r2 => by
    rw [Sc.of r1, Sc.of r2]
    exact ⟨Sc.sc a b, q _ S2 H2 (e1.trans e2) k2 (by rw [Sc.dec]; rfl)⟩
section
variable {t u : TT} {b c : Bool}
theorem et_test (h : EvX K te G b G1) : EvT K (tTest te) G b G1 := fun B S0 S σ H F k Q q => h B S0 S σ H F k _ fun v S1 H1 e1 k1 r1 => ⟨b, r1, q S1 H1 e1 k1⟩
theorem et_B (h : EvX K te G b G1) : EvT K (tB te) G b G1 := fun B S0 S σ H F k Q q => h B S0 S σ H F k _ fun v S1 H1 e1 k1 r1 => ⟨b, r1, q S1 H1 e1 k1⟩
theorem et_or (h1 : EvT K t G b G) (h2 : b = false → EvT K u G c G) : EvT K (tOr t u) G (b || c) G := fun B S0 S σ H F k Q q => h1 B S0 S σ H F k _ fun S1 H1 e1 k1 => by
  cases b with
  | true =>
    show Q true H1
    exact q S1 H1 e1 k1
  | false =>
    show u σ H1 Q
    exact h2 rfl B S0 S1 σ H1 F k1 Q fun S2 H2 e2 k2 => q S2 H2 (e1.trans e2) k2
theorem et_not (h1 : EvT K t G b G1) : EvT K (tNot t) G (!b) G1 := fun B S0 S σ H F k Q q => h1 B S0 S σ H F k _ fun S1 H1 e1 k1 => q S1 H1 e1 k1
end
theorem els_nil : EvLs K tNil G ([] : List α) G := fun B S0 S σ H F k Q q => q [] S H (Same.refl _) k True.intro
theorem els_cons {tr : TA} {xs : List α} (h : EvX K ta G x G1) (hr : EvLs K tr G1 xs G2) : EvLs K (tCons ta tr) G (x :: xs) G2 := fun B S0 S σ H F k Q q =>
  h B S0 S σ H F k _ fun v S1 H1 e1 k1 r1 => hr B S0 S1 σ H1 F k1 _ fun vs S2 H2 e2 k2 r2 => q (v :: vs) S2 H2 (e1.trans e2) k2 ⟨Py.mono e2 r1, r2⟩
theorem ea_nil : EvA K tNil G () G := fun B S0 S σ H F k Q q => q [] S H (Same.refl _) k rfl
theorem ea_cons {δ : Type} [PyA δ] {tr : TA} {xs : δ} (h : EvX K ta G x G1) (hr : EvA K tr G1 xs G2) : EvA K (tCons ta tr) G (x, xs) G2 := fun B S0 S σ H F k Q q =>
  h B S0 S σ H F k _ fun v S1 H1 e1 k1 r1 => hr B S0 S1 σ H1 F k1 _ fun vs S2 H2 e2 k2 r2 => q (v :: vs) S2 H2 (e1.trans e2) k2 ⟨v, vs, rfl, Py.mono e2 r1, r2⟩
theorem el_lst {t : TA} {xs : List α} (h : EvLs K t G xs G1) (hl : xs.length ≤ 1000) : EvL K (tLst t) G xs G1 := fun B S0 S σ H F k Q q =>
  h B S0 S σ H F k _ fun vs S1 H1 e1 k1 r1 => ⟨by rw [r1.len]; exact Nat.le_trans hl (by decide), fun p hp => by
    obtain ⟨a, b, c⟩ := k1.free hp
    exact q p vs S1 _ e1 (k1.raw hp) a b c upd_same r1⟩
theorem ev_tp {t : TA} {xs : List α} (h : EvLs K t G xs G1) (hl : xs.length ≤ 1000) : EvX K (tTup t) G (Tp.mk xs) G1 := fun B S0 S σ H F k Q q =>
  h B S0 S σ H F k _ fun vs S1 H1 e1 k1 r1 => ⟨by rw [r1.len]; exact Nat.le_trans hl (by decide), fun p hp =>
    q (.ref p) _ _ (e1.trans (same_new (k1.free hp).1)) (k1.new hp) ⟨p, vs, rfl, SqT.of upd_same, r1.mono (same_new (k1.free hp).1)⟩⟩
theorem ev_pair (ha : EvX K ta G x G1) (hb : EvX K tb G1 y G2) : EvX K (tTup (tCons ta (tCons tb tNil))) G (x, y) G2 := fun B S0 S σ H F k Q q =>
  ha B S0 S σ H F k _ fun v S1 H1 e1 k1 r1 => hb B S0 S1 σ H1 F k1 _ fun u S2 H2 e2 k2 r2 => ⟨by show 2 ≤ sizeLine; decide, fun p hp => by
    have e3 := same_new (o := .tup [v, u]) (k2.free hp).1
    exact q (.ref p) _ _ ((e1.trans e2).trans e3) (k2.new hp) ⟨p, v, u, rfl, SqT.of upd_same, Py.mono (e2.trans e3) r1, Py.mono e3 r2⟩⟩
theorem ev_t3 (ha : EvX K ta G x G1) (hb : EvX K tb G1 y G2) (hc : EvX K tc G2 z G3) : EvX K (tTup (tCons ta (tCons tb (tCons tc tNil)))) G (T3.mk x y z) G3 := fun B S0 S σ H F k Q q =>
  ha B S0 S σ H F k _ fun v S1 H1 e1 k1 r1 => hb B S0 S1 σ H1 F k1 _ fun u S2 H2 e2 k2 r2 => hc B S0 S2 σ H2 F k2 _ fun w S3 H3 e3 k3 r3 => ⟨by show 3 ≤ sizeLine; decide, fun p hp => by
    have e4 := same_new (o := .tup [v, u, w]) (k3.free hp).1
    exact q (.ref p) _ _ (((e1.trans e2).trans e3).trans e4) (k3.new hp) ⟨p, v, u, w, rfl, SqT.of upd_same, Py.mono ((e2.trans e3).trans e4) r1, Py.mono (e3.trans e4) r2, Py.mono e4 r3⟩⟩
def ix {δ : Type} [Inhabited δ] (xs : List δ) (i : Int) : δ := xs.getD i.toNat default
theorem ix_at {δ : Type} [Inhabited δ] {xs : List δ} {i : Int} (h0 : 0 ≤ i) (h1 : i < xs.length) : xs[i.toNat]? = some (ix xs i) := by
  unfold ix
  rw [List.getD_eq_getElem?_getD]
  rw [List.getElem?_eq_getElem (by omega)]
  rfl
theorem atI_of {vs : List V} {i : Int} {v : V} (h0 : 0 ≤ i) (h : vs[i.toNat]? = some v) : atI vs i = some v := by
  have e : i = ((i.toNat : Nat) : Int) := by omega
  rw [e]
  exact atI_nat h
theorem ev_ix [Inhabited α] {xs : List α} {n : Int} (ha : EvX K ta G xs G1) (hb : EvX K tb G1 n G2) (h : 0 ≤ n ∧ n < xs.length) : EvX K (tOp (rIxL K) ta tb) G (ix xs n) G2 := fun B S0 S σ H F k Q q =>
  ha B S0 S σ H F k _ fun v S1 H1 e1 k1 r1 => hb B S0 S1 σ H1 F k1 _ fun u S2 H2 e2 k2 r2 => by
    obtain ⟨p, vs, rfl, hp, hr⟩ := Py.mono e2 r1
    obtain ⟨w, h1, h2⟩ := hr.get (ix_at h.1 h.2)
    exact ⟨p, vs, n, w, rfl, r2, SqL.of (k2.sub _ _ hp), atI_of h.1 h1, q w S2 H2 (e1.trans e2) k2 h2⟩
theorem ev_fst {xy : α × β} (ha : EvX K ta G xy G1) : EvX K (tOp (rIxT K) ta (tC (.int 0))) G xy.1 G1 := fun B S0 S σ H F k Q q =>
  ha B S0 S σ H F k _ fun v S1 H1 e1 k1 r1 => by
    obtain ⟨p, a, b, rfl, hp, h1, h2⟩ := r1
    exact ⟨p, _, 0, a, rfl, rfl, seqT k1.sub hp, atI_nat (j := 0) rfl, q a S1 H1 e1 k1 h1⟩
theorem ev_snd {xy : α × β} (ha : EvX K ta G xy G1) : EvX K (tOp (rIxT K) ta (tC (.int 1))) G xy.2 G1 := fun B S0 S σ H F k Q q =>
  ha B S0 S σ H F k _ fun v S1 H1 e1 k1 r1 => by
    obtain ⟨p, a, b, rfl, hp, h1, h2⟩ := r1
    exact ⟨p, _, 1, b, rfl, rfl, seqT k1.sub hp, atI_nat (j := 1) rfl, q b S1 H1 e1 k1 h2⟩
def rLenS (K : Fg) : List V → Hp → VK → Prop := fun xs H Q => ∃ p ys, xs = [.ref p] ∧ (SqL K H p ys ∨ SqT K H p ys) ∧ Q (.int ys.length) H
theorem call_lenG {X : Cx} : CallR X (.builtin "len") (rLenS X.K) := call_len_seq
theorem ev_lenS {xs : Scr} (ha : EvX K ta G xs G1) : EvX K (tCB (rLenS K) (tCons ta tNil)) G (xs.l.length : Int) G1 := fun B S0 S σ H F k Q q =>
  ha B S0 S σ H F k _ fun v S1 H1 e1 k1 r1 => by
    obtain ⟨p, rfl, hp⟩ := r1
    exact ⟨p, _, rfl, .inl (k1.sub.seq hp), q _ S1 H1 e1 k1 (by rw [List.length_map]; rfl)⟩
def rMin2 : List V → Hp → VK → Prop := fun xs H Q => ∃ i j, xs = [.int i, .int j] ∧ Q (.int (if j < i then j else i)) H
def rMax2 : List V → Hp → VK → Prop := fun xs H Q => ∃ i j, xs = [.int i, .int j] ∧ Q (.int (if j > i then j else i)) H
theorem call_minG {X : Cx} (hc : X.calm = true) : CallR X (.builtin "min") rMin2 := call_min2 hc
theorem call_maxG {X : Cx} (hc : X.calm = true) : CallR X (.builtin "max") rMax2 := call_max2 hc
theorem ev_min {a b : Int} (ha : EvX K ta G a G1) (hb : EvX K tb G1 b G2) : EvX K (tCB rMin2 (tCons ta (tCons tb tNil))) G (min a b) G2 := fun B S0 S σ H F k Q q =>
  ha B S0 S σ H F k _ fun v S1 H1 e1 k1 r1 => hb B S0 S1 σ H1 F k1 _ fun u S2 H2 e2 k2 r2 => ⟨a, b, by rw [show v = .int a from r1, show u = .int b from r2], q _ S2 H2 (e1.trans e2) k2 (by
    show V.int _ = V.int _
    congr 1
    rw [Int.min_def]
    split <;> split <;> omega)⟩
theorem ev_max {a b : Int} (ha : EvX K ta G a G1) (hb : EvX K tb G1 b G2) : EvX K (tCB rMax2 (tCons ta (tCons tb tNil))) G (max a b) G2 := fun B S0 S σ H F k Q q =>
  ha B S0 S σ H F k _ fun v S1 H1 e1 k1 r1 => hb B S0 S1 σ H1 F k1 _ fun u S2 H2 e2 k2 r2 => ⟨a, b, by rw [show v = .int a from r1, show u = .int b from r2], q _ S2 H2 (e1.trans e2) k2 (by
    show V.int _ = V.int _
    congr 1
    rw [Int.max_def]
    split <;> split <;> omega)⟩
def rInt1 : List V → Hp → VK → Prop := fun xs H Q => (∃ i, xs = [.int i] ∧ Q (.int i) H) ∨ ∃ k, xs = [.bl k] ∧ Q (.int (if k then 1 else 0)) H
theorem RepD.get {δ : Type} [Py δ] {K : Fg} {S : Hp} {kvs : List (Key × V)} {d : Dct δ} {k : Int} (h : RepD K S kvs d.l) : (∀ x, d.get? k = some x → ∃ v, valV kvs (Sum.inl k) = some v ∧ Py.rep K S v x) ∧ (d.get? k = none → valV kvs (Sum.inl k) = none) := by
  have q := h.val k
  unfold Dct.get?
  constructor
  · intro x e
    rw [e] at q
    exact q
  · intro e
    rw [e] at q
    exact q
theorem RepD.isSome {δ : Type} [Py δ] {K : Fg} {S : Hp} {kvs : List (Key × V)} {d : Dct δ} (k : Int) (h : RepD K S kvs d.l) : (valV kvs (Sum.inl k)).isSome = (d.get? k).isSome := by
  obtain ⟨h1, h2⟩ := h.get (k := k)
  cases e : d.get? k with
  | none => rw [h2 e]; rfl
  | some x =>
    obtain ⟨v, h3, _⟩ := h1 x e
    rw [h3]
    rfl
def dix {δ : Type} [Inhabited δ] (d : Dct δ) (k : Int) : δ := (d.get? k).getD default
end
def spF {α β : Type} [PyA α] [Py β] (K : Fg) (f : α → β) (pre : α → Prop) : Sp := fun vs H Q _ => ∃ (S : Hp) (a : α), Same S H ∧ PyA.rep K S vs a ∧ pre a ∧ ∀ v S' H', Grow S H S' H' → Py.rep K S' v (f a) → Q v H'
def spL {α β : Type} [PyA α] [Py β] (K : Fg) (f : α → List β) (pre : α → Prop) : Sp := fun vs H Q _ => ∃ (S : Hp) (a : α), Same S H ∧ PyA.rep K S vs a ∧ pre a ∧
  ∀ p us S' H', Grow S H S' H' → H p = none → S' p = none → H' p = some (.lst us) → RepL K S' us (f a) → Q (.ref p) H'
section
variable {α β : Type} [PyA α] [Py β] {G1 : List Sl} {f : α → β} {pre : α → Prop} {a : α} {t : TA} {E : XK}
end
end
end GL
namespace GL
open PySem L2
theorem wipe_get (σ : St) : ∀ (vs : List Nat) (k : Nat), (wipe σ vs)[k]? = if k ∈ vs ∧ k < σ.length then some none else σ[k]?
  | [], k => by simp [wipe]
  | v :: vs, k => by
    unfold wipe
    have ih := wipe_get σ vs k
    have hl := wipe_length σ vs
    by_cases e : v = k
    · subst e
      by_cases h : v < σ.length
      · rw [List.getElem?_set_self (by rw [hl]; exact h), if_pos ⟨List.mem_cons_self, h⟩]
      · rw [List.getElem?_eq_none (by rw [List.length_set, hl]; omega), if_neg (fun q => h q.2), List.getElem?_eq_none (by omega)]
    · rw [List.getElem?_set_ne e, ih]
      have : (k ∈ v :: vs) ↔ k ∈ vs := by
        simp only [List.mem_cons]
        exact ⟨fun q => q.resolve_left fun z => e z.symm, .inr⟩
      simp only [this]
theorem wipe_set {σ : St} {vs : List Nat} {j : Nat} {y : Option V} (h : j ∈ vs) : wipe (σ.set j y) vs = wipe σ vs := by
  apply List.ext_getElem?
  intro k
  rw [wipe_get, wipe_get, List.length_set]
  by_cases e : k ∈ vs ∧ k < σ.length
  · rw [if_pos e, if_pos e]
  · rw [if_neg e, if_neg e]
    by_cases ej : j = k
    · subst ej
      have : ¬ j < σ.length := fun q => e ⟨h, q⟩
      rw [List.getElem?_eq_none (by rw [List.length_set]; omega), List.getElem?_eq_none (by omega)]
    · rw [List.getElem?_set_ne ej]
def wipeG (G : List Sl) : List Nat → List Sl
  | [] => G
  | v :: vs => (wipeG G vs).set v .no
section
variable {K : Fg} {B S0 S1 S S' : Hp} {σ : St} {H H' : Hp} {F : Nat → List Addr} {G G' : List Sl}
theorem Kn.wipe (k : Kn K B S0 S σ H F G) : ∀ vs : List Nat, Kn K B S0 S (wipe σ vs) H F (wipeG G vs)
  | [] => k
  | v :: vs => (Kn.wipe k vs).setNo
theorem Kn.pin {p : Addr} {o : HO} (k : Kn K B S0 S σ H F G) (h : H p = some o) (hs : S p = none) (hf : ∀ j, p ∉ F j) : Kn K (upd B p o) S0 S σ H F G := by
  refine ⟨k.s0, k.sub, fun b x q => ?_, fun b x q => ?_, fun i b hb => ?_, k.dj, k.len, k.sl⟩
  · by_cases e : b = p
    · subst e
      rw [upd_same] at q
      rw [h, q]
    · rw [upd_ne e] at q
      exact k.keep b x q
  · by_cases e : b = p
    · subst e
      rw [hs, k.s0.free hs]
    · rw [upd_ne e] at q
      exact k.clean b x q
  · obtain ⟨h1, h2, h3⟩ := k.off i b hb
    have ne : b ≠ p := fun z => hf i (z ▸ hb)
    exact ⟨h1, by rw [upd_ne ne]; exact h2, h3⟩
theorem Kn.poke {p : Addr} {o : HO} (k : Kn K B S0 S σ H F G) (hs : S p = none) (hb : B p = none) (hf : ∀ j, p ∉ F j) : Kn K B S0 S σ (upd H p o) F G := by
  refine ⟨k.s0, fun b x q => ?_, fun b x q => ?_, k.clean, fun i b hb' => ?_, k.dj, k.len, fun i s q => ?_⟩
  · rw [upd_ne (ne_of_none q hs)]
    exact k.sub b x q
  · rw [upd_ne (ne_of_none q hb)]
    exact k.keep b x q
  · obtain ⟨h1, h2, w, h3⟩ := k.off i b hb'
    have ne : b ≠ p := fun z => hf i (z ▸ hb')
    exact ⟨h1, h2, w, by rw [upd_ne ne]; exact h3⟩
  · have z := k.sl i s q
    cases s with
    | no => exact True.intro
    | im x => exact z
    | ow x =>
      obtain ⟨v, h1, h2⟩ := z
      exact ⟨v, h1, Own.mono (Same.refl _) (fun b hb' => upd_ne fun z => hf i (z ▸ hb')) h2⟩
def TgG {α : Type} [Py α] (K : Fg) (g : TG) (x : α) (G G' : List Sl) (ts : List Nat) : Prop := (∀ j : Nat, j ∉ ts → G'[j]? = G[j]?) ∧
  ∀ B S0 S σ H F v, Kn K B S0 S σ H F G → Py.rep K S v x → ∀ Q : St → Hp → Prop, (∀ σ', Kn K B S0 S σ' H F G' → (∀ j : Nat, j ∉ ts → σ'[j]? = σ[j]?) → (∀ vs : List Nat, (∀ t ∈ ts, t ∈ vs) → L2.wipe σ' vs = L2.wipe σ vs) → Q σ' H) → g v σ H Q
section
variable {α β γ : Type} [Py α] [Py β] [Py γ] {x : α} {y : β} {z : γ} {g1 g2 g3 : TG} {G1 G2 G3 : List Sl} {t1 t2 t3 : List Nat}
theorem ne_of_notIn {j k : Nat} (h : k ∉ [j]) : j ≠ k := fun e => h (List.mem_singleton.mpr e.symm)
theorem tg_name {j : Nat} (hj : G[j]?.isSome = true) : TgG K (gName j) x G (G.set j (.im x)) [j] := ⟨fun k hk => List.getElem?_set_ne (ne_of_notIn hk), fun B S0 S σ H F v k r Q q =>
  q _ (k.set r hj) (fun k hk => List.getElem?_set_ne (ne_of_notIn hk)) fun vs hv => wipe_set (hv j (List.mem_singleton.mpr rfl))⟩
theorem notL {t1 t2 : List Nat} {j : Nat} (h : j ∉ t1 ++ t2) : j ∉ t1 ∧ j ∉ t2 := ⟨fun q => h (List.mem_append_left _ q), fun q => h (List.mem_append_right _ q)⟩
theorem tg_pair {xy : α × β} (h1 : TgG K g1 xy.1 G G1 t1) (h2 : TgG K g2 xy.2 G1 G2 t2) : TgG K (gTup K 2 (gCons g1 (gCons g2 gNil))) xy G G2 (t1 ++ t2) := ⟨fun j hj => (h2.1 j (notL hj).2).trans (h1.1 j (notL hj).1), fun B S0 S σ H F v k r Q q => by
  obtain ⟨p, a, b, rfl, hp, ra, rb⟩ := r
  refine ⟨p, [a, b], rfl, seqT k.sub hp, rfl, a, [b], rfl, h1.2 B S0 S σ H F a k ra _ fun σ1 k1 o1 w1 => ⟨b, [], rfl, h2.2 B S0 S σ1 H F b k1 rb _ fun σ2 k2 o2 w2 => ⟨rfl, q σ2 k2 (fun j hj => (o2 j (notL hj).2).trans (o1 j (notL hj).1)) fun vs hv => ?_⟩⟩⟩
  rw [w2 vs fun t ht => hv t (List.mem_append_right _ ht), w1 vs fun t ht => hv t (List.mem_append_left _ ht)]⟩
theorem tg_t3 {xy : T3 α β γ} (h1 : TgG K g1 xy.a G G1 t1) (h2 : TgG K g2 xy.b G1 G2 t2) (h3 : TgG K g3 xy.c G2 G3 t3) : TgG K (gTup K 3 (gCons g1 (gCons g2 (gCons g3 gNil)))) xy G G3 (t1 ++ (t2 ++ t3)) := ⟨fun j hj => ((h3.1 j (notL (notL hj).2).2).trans (h2.1 j (notL (notL hj).2).1)).trans (h1.1 j (notL hj).1), fun B S0 S σ H F v k r Q q => by
  obtain ⟨p, a, b, c, rfl, hp, ra, rb, rc⟩ := r
  refine ⟨p, [a, b, c], rfl, seqT k.sub hp, rfl, a, [b, c], rfl, h1.2 B S0 S σ H F a k ra _ fun σ1 k1 o1 w1 => ⟨b, [c], rfl, h2.2 B S0 S σ1 H F b k1 rb _ fun σ2 k2 o2 w2 => ⟨c, [], rfl, h3.2 B S0 S σ2 H F c k2 rc _ fun σ3 k3 o3 w3 =>
    ⟨rfl, q σ3 k3 (fun j hj => ((o3 j (notL (notL hj).2).2).trans (o2 j (notL (notL hj).2).1)).trans (o1 j (notL hj).1)) fun vs hv => ?_⟩⟩⟩⟩
  rw [w3 vs fun t ht => hv t (List.mem_append_right _ (List.mem_append_right _ ht)), w2 vs fun t ht => hv t (List.mem_append_right _ (List.mem_append_left _ ht)), w1 vs fun t ht => hv t (List.mem_append_left _ ht)]⟩
end
section
variable {α β γ : Type} [Py α] [Py β] [Py γ] {x : α} {y : β} {G1 G2 : List Sl} {te ta tb : TE} {t u w : TS} {E : Ends} {tt : TT} {b : Bool} {i j : Nat} {g : TG} {ts : List Nat}
theorem q_next (h : At K B S0 E.nx G) : At K B S0 (tNext E) G := h
theorem q_asg (h : EvX K te G x G1) (hg : TgG K g x G1 G2 ts) (k : At K B S0 (u E) G2) : At K B S0 (tSeq (tAsg te g) u E) G := fun S σ H F kn =>
  h B S0 S σ H F kn _ fun v S' H' e kn' r => hg.2 B S0 S' σ H' F v kn' r _ fun σ' k2 _ _ => k S' σ' H' F k2
theorem q_set (h : EvX K te G x G1) (hi : G1[i]?.isSome = true) (k : At K B S0 (u E) (G1.set i (.im x))) : At K B S0 (tSeq (tAsg te (gName i)) u E) G := q_asg h (tg_name hi) k
theorem q_ret (h : EvX K te G x G1) (k : RT K B S0 E.rt x G1) : At K B S0 (tSeq (tRet te) u E) G := fun S σ H F kn =>
  h B S0 S σ H F kn _ fun v S' H' e kn' r => k S' σ H' F v kn' r
theorem q_if (h : EvT K tt G b G1) (h1 : b = true → At K B S0 (t { E with nx := u E }) G1) (h2 : b = false → At K B S0 (w { E with nx := u E }) G1) : At K B S0 (tSeq (tIfS tt t w) u E) G := fun S σ H F kn =>
  h B S0 S σ H F kn _ fun S' H' e kn' => by
    cases b with
    | true => exact h1 rfl S' σ H' F kn'
    | false => exact h2 rfl S' σ H' F kn'
theorem q_cut (P : List Sl → Prop) (h : At K B S0 (t { E with nx := Mid K B S0 P }) G) (k : ∀ G', P G' → At K B S0 (u E) G') : At K B S0 (Evl.tCut t u E) G := fun S σ H F kn =>
  ⟨Mid K B S0 P, h S σ H F kn, fun σ' H' ⟨S', F', G', kn', p⟩ => k G' p S' σ' H' F' kn'⟩
theorem q_cut1 (G' : List Sl) (h : At K B S0 (t { E with nx := Mid K B S0 (· = G') }) G) (k : At K B S0 (u E) G') : At K B S0 (Evl.tCut t u E) G := q_cut _ h fun _ e => by rw [e]; exact k
theorem q_ifc (h : EvT K tt G b G1) (h1 : b = true → At K B S0 (t E) G1) (h2 : b = false → At K B S0 (w E) G1) : At K B S0 (tIfS tt t w E) G := fun S σ H F kn =>
  h B S0 S σ H F kn _ fun S' H' e kn' => by
    cases b with
    | true => exact h1 rfl S' σ H' F kn'
    | false => exact h2 rfl S' σ H' F kn'
end
def Wk {α : Type} [Py α] (K : Fg) (J : It) (S : Hp) (xs : List α) : Prop := ∀ S' H' i, Same S S' → Same S' H' →
  (∀ x, xs[i]? = some x → J.go i H' ∧ ∀ v H'', J.yld i H' v H'' → ∃ S'', Grow S' H' S'' H'' ∧ Py.rep K S'' v x) ∧ (xs.length ≤ i → J.stop i H')
def ItG {α : Type} [Py α] (K : Fg) (wi : TI) (G : List Sl) (xs : List α) (G' : List Sl) : Prop :=
  ∀ B S0 S σ H F, Kn K B S0 S σ H F G → ∀ R : It → Hp → Prop, (∀ J S' H', Same S S' → Kn K B S0 S' σ H' F G' → Wk K J S' xs → R J H') → wi σ H R
def rng (a b : Int) : List Int := (List.range (b - a).toNat).map fun (i : Nat) => a + (i : Int)
def enumI {α : Type} (xs : List α) : List (Int × α) := (xs.zipIdx).map fun p => ((p.2 : Int), p.1)
section
variable {α β : Type} [Py α] [Py β] {G1 G2 : List Sl} {tl ta tb : TE}
theorem wk_list {S : Hp} {p : Addr} {vs : List V} {xs : List α} (hp : S p = some (.lst vs)) (r : RepL K S vs xs) : Wk K (Itl K p) S xs := fun S' H' i e1 e2 => by
  have h1 : SqL K H' p vs := SqL.of (e2 _ _ (e1 _ _ hp))
  refine ⟨fun x hx => ?_, fun hl => ⟨vs, h1, by rw [r.len]; exact hl⟩⟩
  obtain ⟨v, hv, rv⟩ := r.get hx
  refine ⟨⟨vs, v, h1, hv⟩, fun w H'' y => ?_⟩
  obtain ⟨rfl, y⟩ := y
  have e := y vs h1
  rw [hv] at e
  cases e
  exact ⟨S', Grow.refl e2, Py.mono e1 rv⟩
theorem it_list {xs : List α} (h : EvX K tl G xs G1) : ItG K (iList K tl) G xs G1 := fun B S0 S σ H F k R q =>
  h B S0 S σ H F k _ fun v S1 H1 e1 k1 r1 => by
    obtain ⟨p, vs, rfl, hp, hr⟩ := r1
    exact ⟨p, rfl, ⟨vs, SqL.of (k1.sub _ _ hp)⟩, q _ S1 H1 e1 k1 (wk_list hp hr)⟩
theorem wk_rng {S : Hp} (a : Int) (n : Nat) : Wk K (Itr a n) S ((List.range n).map fun (i : Nat) => a + (i : Int)) := fun S' H' i e1 e2 => by
  refine ⟨fun x hx => ?_, fun hl => by rw [List.length_map, List.length_range] at hl; exact hl⟩
  have hi : i < n := by
    have := (List.getElem?_eq_some_iff.mp hx).1
    rw [List.length_map, List.length_range] at this
    exact this
  rw [List.getElem?_map, List.getElem?_range hi] at hx
  cases hx
  refine ⟨hi, fun w H'' y => ?_⟩
  obtain ⟨rfl, rfl⟩ := y
  exact ⟨S', Grow.refl e2, rfl⟩
theorem it_rng1 {n : Int} (h : EvX K ta G n G1) (hn : -4611686018427387904 ≤ n ∧ n < 4611686018427387904) : ItG K (iRng1 (tCons ta tNil)) G (rng 0 n) G1 := fun B S0 S σ H F k R q =>
  h B S0 S σ H F k _ fun v S1 H1 e1 k1 r1 => ⟨n, by rw [show v = .int n from r1], hn.1, hn.2, q _ S1 H1 e1 k1 (by
    have := wk_rng (K := K) (S := S1) 0 n.toNat
    unfold rng
    rw [Int.sub_zero]
    exact this)⟩
end
section
variable {α : Type} [Py α] {G1 : List Sl} {wi : TI} {g : TG} {tb u : TS} {E : Ends} {xs : List α}
theorem q_for (I : List α → List α → List Sl → Prop) (hi : ItG K wi G xs G1) (h0 : I [] xs G1)
    (hs : ∀ pre x post Gi, pre ++ x :: post = xs → I pre (x :: post) Gi → ∀ S1, Reb B S0 S1 → ∃ G2 ts, TgG K g x Gi G2 ts ∧ At K B S1 (tb { E with nx := Mid K B S1 (I (pre ++ [x]) post), ct := Mid K B S1 (I (pre ++ [x]) post), bk := u E }) G2)
    (hd : ∀ Gi, I xs [] Gi → At K B S0 (u E) Gi) : At K B S0 (tSeq (tFor wi g tb) u E) G := fun S σ H F kn =>
  hi B S0 S σ H F kn _ fun J S1 H1 e1 k1 wk => by
    have rb : Reb B S0 S1 := k1.rebOf
    refine ⟨fun i m σ H => ∃ pre post S F Gi, pre ++ post = xs ∧ pre.length = i ∧ post.length = m ∧ Kn K B S1 S σ H F Gi ∧ I pre post Gi, ⟨xs.length, [], xs, S1, F, G1, rfl, rfl, rfl, k1.reb, h0⟩, ?_⟩
    rintro i m σ' H' ⟨pre, post, S2, F2, Gi, ex, rfl, rfl, k2, p⟩
    cases post with
    | nil =>
      refine .inl ⟨(wk S2 H' pre.length k2.s0 k2.sub).2 (by rw [← ex, List.append_nil]; exact Nat.le_refl _), ?_⟩
      rw [List.append_nil] at ex
      subst ex
      exact hd Gi p S2 σ' H' F2 (k2.unreb rb)
    | cons x post =>
      have hx : xs[pre.length]? = some x := by
        rw [← ex, List.getElem?_append_right (Nat.le_refl _), Nat.sub_self]
        rfl
      obtain ⟨go, yl⟩ := (wk S2 H' pre.length k2.s0 k2.sub).1 x hx
      refine .inr ⟨go, Mid K B S1 (I (pre ++ [x]) post), ?_, ?_⟩
      · rintro σ3 H3 ⟨S3, F3, G3, k3, p3⟩
        exact ⟨post.length, by rw [List.length_cons]; omega, pre ++ [x], post, S3, F3, G3, by rw [← ex, List.append_assoc]; rfl, by rw [List.length_append]; rfl, rfl, k3, p3⟩
      · intro v H3 y
        obtain ⟨S3, gr, r⟩ := yl v H3 y
        obtain ⟨G2, ts, tg, bd⟩ := hs pre x post Gi ex p S1 rb
        exact tg.2 B S1 S3 σ' H3 F2 v (k2.grow gr) r _ fun σ4 k4 _ _ => bd S3 σ4 H3 F2 k4
end
section
variable {tt : TT} {tb u : TS} {E : Ends}
end
def Sl.isOw : Sl → Bool
  | @Sl.ow _ _ _ => true
  | _ => false
theorem wipeG_get (G : List Sl) : ∀ (vs : List Nat) (k : Nat), k ∉ vs → (wipeG G vs)[k]? = G[k]?
  | [], _, _ => rfl
  | v :: vs, k, h => by
    unfold wipeG
    rw [List.getElem?_set_ne fun e => h (by rw [e]; exact List.mem_cons_self)]
    exact wipeG_get G vs k fun q => h (List.mem_cons_of_mem _ q)
theorem wipe_get' {σ : St} {vs : List Nat} {k : Nat} (h : k ∉ vs) : (L2.wipe σ vs)[k]? = σ[k]? := by
  rw [wipe_get, if_neg fun q => h q.1]
section
variable {α β τ : Type} [Py α] [Py β] {G1 : List Sl} {wi : TI} {g : TG} {tt : TT} {te : TE} {vs : List Nat} {xs : List α}
theorem Kn.outer {B1 : Hp} {G2 Gn : List Sl} {σ2 : St} (k : Kn K B S0 S σ H F G) (e : Same S S') (k2 : Kn K B1 S0 S' σ2 H' F G2) (hb : Same B B1) (hσ : ∀ j : Nat, j ∉ vs → σ2[j]? = σ[j]?)
    (hG : ∀ j s, Gn[j]? = some s → (j ∉ vs ∧ G2[j]? = some s) ∨ (s.isOw = false ∧ G[j]? = some s)) (hl : Gn.length = G.length) : Kn K B S0 S' σ H' F Gn := by
  refine ⟨k2.s0, k2.sub, hb.trans k2.keep, fun p o q => k2.clean p o (hb p o q), fun i p hp => ?_, k2.dj, hl.trans k.len, fun j s hj => ?_⟩
  · obtain ⟨h1, h2, h3⟩ := k2.off i p hp
    exact ⟨h1, hb.free h2, h3⟩
  · rcases hG j s hj with ⟨hv, h2⟩ | ⟨ho, h1⟩
    · have z := k2.sl j s h2
      rw [hσ j hv] at z
      exact z
    · have z := k.sl j s h1
      cases s with
      | no => exact True.intro
      | im x =>
        obtain ⟨v, h1, h2⟩ := z
        exact ⟨v, h1, Py.mono e h2⟩
      | ow x => cases ho
theorem foldl_fm (f : α → Bool) (e : α → β) : ∀ (l : List α) (a : List β), (l.foldl (fun (a : List β × Unit) x => (if f x = true then a.1 ++ [e x] else a.1, ())) (a, ())).1 = a ++ (l.filter f).map e
  | [], a => by simp
  | x :: l, a => by
    rw [List.foldl_cons, foldl_fm f e l, List.filter_cons]
    cases f x with
    | true => simp
    | false => simp
end
end
end GL
namespace GL
open PySem PySem.Spec PyProof.Rows L2
class Sls (α : Type) extends PyA α where
  sls : α → List Sl
  ok : ∀ {K : Fg} {S H : Hp} {vs : List V} {x : α}, toPyA.rep K S vs x → (sls x).length = vs.length ∧ ∀ (i : Nat) (s : Sl), (sls x)[i]? = some s → SlOk K S H (vs.map some)[i]? [] s
instance : Sls Unit := ⟨fun _ => [], fun h => ⟨by rw [show _ = [] from h]; rfl, fun i s e => by simp at e⟩⟩
instance {α β : Type} [Py α] [Sls β] : Sls (α × β) := ⟨fun x => .im x.1 :: Sls.sls x.2, fun {K S H vs x} h => by
  obtain ⟨v, ws, rfl, h1, h2⟩ := h
  obtain ⟨l, q⟩ := Sls.ok (H := H) h2
  refine ⟨by rw [List.length_cons, List.length_cons, l], fun i s e => ?_⟩
  cases i with
  | zero =>
    simp only [List.getElem?_cons_zero, Option.some.injEq] at e
    subst e
    exact ⟨v, rfl, h1⟩
  | succ i =>
    have := q i s (by simpa using e)
    simpa using this⟩
structure Cal (P : Program) (w : World) (K : Fg) (mg : Str → Option Value) (base : Heap) (k : Nat) (x : Str) (ps : List Str) (sp : Sp) : Prop where
  ex : ∃ (f : Addr) (fd : FuncData), mg x = some (.ref f) ∧ FnOk P w K mg base CX0 k f fd ps sp ∧ PySem.W.keepIn K (.ref f) = true ∧ Binds K fd ps []
structure Def (K : Fg) (mg : Str → Option Value) (x : Str) (st : Stmt) (ps : List Str) : Prop where
  ex : ∃ (f : Addr) (fd : FuncData), mg x = some (.ref f) ∧ Fun K x x st f fd ∧ Binds K fd ps []
theorem Cal.mono {P : Program} {w : World} {K : Fg} {mg : Str → Option Value} {base : Heap} {j k : Nat} {x : Str} {ps : List Str} {sp : Sp} (c : Cal P w K mg base j x ps sp) (h : j ≤ k) : Cal P w K mg base k x ps sp := by
  obtain ⟨f, fd, a, b, c, d⟩ := c.ex
  exact ⟨f, fd, a, b.mono h, c, d⟩
theorem pe_cal {X : Cx} {j k : Nat} {x : Str} {ps : List Str} {sp : Sp} {e : Expr} {es : List Expr} {t : TA} {p pos : Pos} (c : Cal X.prog X.w X.K X.mg X.base k x ps sp) (hr : Room j X.A) (hk : k ≤ j) (hg : Gl X x) (ha : PA X (e :: es) t)
    (hd : (x == ("__debug__" : Str)) = false := by decide) (hs : starEach (e :: es) X.env = (false, eval e X.env) :: starEach es X.env := by rfl) (hpl : (backTo pos (starEach es X.env)).any (·.1) = false := by rfl) :
    PE X (.Call (.Name x p) (e :: es) [] pos) (tCall sp [] E0 t) := by
  obtain ⟨f, fd, a, b, c, d⟩ := c.ex
  exact pe_call b (hr.mono hk) hg a c d .nil pass0 ha hd hs hpl
section
variable {P : Program} {w : World} {K : Fg} {mg : Str → Option Value} {base : Heap} {α β : Type} [Sls α] [Py β]
theorem start_kn {H S : Hp} {vs : List V} {a : α} {N : List Str} (e : Same S H) (r : PyA.rep K S vs a) : Kn K H S S (L2.start N vs) H (fun _ => []) (Sls.sls a ++ List.replicate (N.length - PyA.n α) .no) := by
  obtain ⟨l, q⟩ := Sls.ok (H := H) r
  have hn := PyA.len r
  refine ⟨Same.refl _, e, Same.refl _, fun _ _ _ => rfl, (fun i p hp => nomatch hp), (fun i j p hp => nomatch hp), ?_, fun i s hi => ?_⟩
  · unfold L2.start
    rw [List.length_append, List.length_append, List.length_map, List.length_replicate, List.length_replicate, l, hn]
  · unfold L2.start
    by_cases c : i < (Sls.sls a).length
    · rw [List.getElem?_append_left c] at hi
      rw [List.getElem?_append_left (by rw [List.length_map, ← l]; exact c)]
      exact q i s hi
    · rw [List.getElem?_append_right (by omega)] at hi
      have : s = .no := by
        have := List.mem_of_getElem? hi
        exact List.eq_of_mem_replicate this
      subst this
      exact True.intro
end
end GL
namespace GL
open PySem PySem.Spec PyProof.Rows L2
inductive Fl (τ ρ : Type) where
  | nx (s : τ)
  | bk (s : τ)
  | rt (r : ρ)
def forL {α τ ρ : Type} (body : τ → α → Fl τ ρ) (k : τ → ρ) : List α → τ → ρ
  | [], s => k s
  | x :: xs, s => match body s x with
    | .nx s' => forL body k xs s'
    | .bk s' => k s'
    | .rt r => r
def whl {τ ρ : Type} (c : τ → Bool) (body : τ → Fl τ ρ) (k : τ → ρ) : Nat → τ → ρ
  | 0, s => k s
  | n + 1, s => if c s = true then (match body s with
    | .nx s' => whl c body k n s'
    | .bk s' => k s'
    | .rt r => r) else k s
section
variable {α τ ρ : Type} {body : τ → α → Fl τ ρ} {k : τ → ρ} {x : α} {xs : List α} {s s' : τ} {r : ρ} {R : ρ}
variable {c : τ → Bool} {bodyW : τ → Fl τ ρ} {n : Nat}
theorem whl_nx (h : R = whl c bodyW k (n + 1) s) (hc : c s = true) (e : bodyW s = .nx s') : R = whl c bodyW k n s' := by
  rw [h, whl, if_pos hc, e]
end
section
variable {K : Fg} {B S0 S1 S S' : Hp} {σ : L2.St} {H H' : Hp} {F : Nat → List Addr} {G G' : List Sl}
section
variable {α β γ : Type} [Py α] [Py β] [Py γ] {x : α} {y : β} {G1 G2 : List Sl} {te ta tb : TE} {t u w : TS} {E : Ends} {tt : TT} {b : Bool} {i j l : Nat} {P : L2.St → Hp → Prop}
theorem at_gen {x : α} (i : Nat) (h : G[i]? = some (.im x)) (k : ∀ y, y = x → At K B S0 P (G.set i (.im y))) : At K B S0 P G := by
  have := k x rfl
  have e : G.set i (.im x) = G := by
    apply List.ext_getElem?
    intro j
    by_cases q : i = j
    · subst q
      rw [List.getElem?_set_self (List.getElem?_eq_some_iff.mp h).1, h]
    · rw [List.getElem?_set_ne q]
  rw [e] at this
  exact this
theorem at_genO {δ : Type} [Own δ] {x : δ} (i : Nat) (h : G[i]? = some (.ow x)) (k : ∀ y, y = x → At K B S0 P (G.set i (.ow y))) : At K B S0 P G := by
  have := k x rfl
  have e : G.set i (.ow x) = G := by
    apply List.ext_getElem?
    intro j
    by_cases q : i = j
    · subst q
      rw [List.getElem?_set_self (List.getElem?_eq_some_iff.mp h).1, h]
    · rw [List.getElem?_set_ne q]
  rw [e] at this
  exact this
theorem qg_set (i : Nat) (h : EvX K te G x G1) (hi : G1[i]?.isSome = true) (k : ∀ y, y = x → At K B S0 (u E) (G1.set i (.im y))) : At K B S0 (tSeq (tAsg te (gName i)) u E) G := q_set h hi (k x rfl)
theorem q_ifF (h : EvT K tt G b G1) (hb : b = false) (k : At K B S0 (u E) G1) : At K B S0 (tSeq (tIfS tt t tNext) u E) G := q_if h (fun e => by rw [hb] at e; cases e) fun _ => k
end
section
variable {α : Type} [Py α] {τ ρ : Type} {G1 : List Sl} {wi : TI} {g : TG} {tb u : TS} {tt : TT} {E : Ends} {xs : List α}
theorem qg_inv (γ : τ → List Sl) (I : List α → τ → Prop) (s0 : τ) (hi : ItG K wi G xs G1) (h0 : Le (γ s0) G1) (hI : I [] s0)
    (hs : ∀ pre x post s, pre ++ x :: post = xs → I pre s → ∀ S1, Reb B S0 S1 → ∃ G2 ts, TgG K g x (γ s) G2 ts ∧ At K B S1 (tb { E with nx := Mid K B S1 (fun G' => ∃ s', G' = γ s' ∧ I (pre ++ [x]) s'), ct := Mid K B S1 (fun G' => ∃ s', G' = γ s' ∧ I (pre ++ [x]) s'), bk := u E }) G2)
    (hd : ∀ s, I xs s → At K B S0 (u E) (γ s)) : At K B S0 (tSeq (tFor wi g tb) u E) G := by
  have hi' : ItG K wi G xs (γ s0) := fun B S0 S σ H F k R q => hi B S0 S σ H F k R fun J S' H' e k' w => q J S' H' e (k'.le h0) w
  refine q_for (fun pre post Gi => ∃ s, Gi = γ s ∧ I pre s) hi' ⟨s0, rfl, hI⟩ (fun pre x post Gi ex ⟨s, e, p⟩ S1 rb => ?_) fun Gi ⟨s, e, p⟩ => by rw [e]; exact hd s p
  subst e
  exact hs pre x post s ex p S1 rb
def WhI (γ : τ → List Sl) (c : τ → Bool) (body : τ → Fl τ ρ) (k : τ → ρ) (R : ρ) (I : τ → Prop) (μ : τ → Nat) (m : Nat) (Gi : List Sl) : Prop := ∃ s, Gi = γ s ∧ R = whl c body k m s ∧ I s ∧ μ s ≤ m
def WhN (γ : τ → List Sl) (c : τ → Bool) (body : τ → Fl τ ρ) (k : τ → ρ) (R : ρ) (I : τ → Prop) (μ : τ → Nat) (n : Nat) (Gi : List Sl) : Prop := ∃ m', m' < n + 1 ∧ WhI γ c body k R I μ m' Gi
end
def spM {ω α β : Type} [Own ω] [PyA α] [Py β] (K : Fg) (f : ω → α → β × ω) (pre : ω → α → Prop) : Sp := fun vs H Q _ => ∃ (S : Hp) (v0 : V) (ws : List V) (ps : List Addr) (z : ω) (a : α), vs = v0 :: ws ∧ Same S H ∧ Own.own K S H v0 ps z ∧
  (∀ p ∈ ps, S p = none ∧ ∃ o, H p = some o) ∧ PyA.rep K S ws a ∧ pre z a ∧ ∀ v S' H', Same S S' → Same S' H' → (∀ p o, p ∉ ps → H p = some o → H' p = some o) → (∀ p o, H p = some o → S' p = S p) → (∀ p ∈ ps, ∃ o, H' p = some o) →
    Own.own K S' H' v0 ps (f z a).2 → Py.rep K S' v (f z a).1 → Q v H'
section
variable {ω α β : Type} [Own ω] [PyA α] [Py β] {G1 : List Sl} {f : ω → α → β × ω} {pre : ω → α → Prop} {z z' : ω} {a : α} {t : TA} {E : XK} {i : Nat}
theorem ev_callM (hi : G[i]? = some (.ow z)) (ha : EvA K t G a G1) (hi1 : G1[i]? = some (.ow z')) (hp : pre z' a) : EvX K (tCall (spM K f pre) [] E (tCons (tVar i) t)) G (f z' a).1 (G1.set i (.ow (f z' a).2)) := fun B S0 S σ H F k Q q => by
  obtain ⟨v0, h1, h2⟩ := k.ow hi
  refine ⟨v0, h1, ha B S0 S σ H F k _ fun vs S1 H1 e1 k1 r1 => ?_⟩
  show spM K f pre (v0 :: vs ++ []) H1 Q E
  rw [List.append_nil]
  obtain ⟨v1, h3, h4⟩ := k1.ow hi1
  rw [h1] at h3
  cases h3
  refine ⟨S1, v0, vs, F i, z', a, rfl, k1.sub, h4, fun p hp => ⟨(k1.off i p hp).1, (k1.off i p hp).2.2⟩, r1, hp, fun v S2 H2 s1 s2 hk hc hl ho r2 => q v S2 H2 (e1.trans s1) ?_ r2⟩
  have hH : ∀ p o, p ∉ F i → H1 p = some o → H2 p = some o := hk
  refine ⟨k1.s0.trans s1, s2, fun p o e => ?_, fun p o e => (hc p o (k1.keep p o e)).trans (k1.clean p o e), fun j p hp => ?_, k1.dj, by rw [List.length_set]; exact k1.len, fun j s e => ?_⟩
  · exact hH p o (fun m => by rw [(k1.off i p m).2.1] at e; cases e) (k1.keep p o e)
  · obtain ⟨a1, a2, o, a3⟩ := k1.off j p hp
    refine ⟨(hc p o a3).trans a1, a2, ?_⟩
    by_cases m : p ∈ F i
    · exact hl p m
    · exact ⟨o, hH p o m a3⟩
  · rcases set_get e with ⟨rfl, rfl⟩ | ⟨ne, e⟩
    · exact ⟨v0, h1, ho⟩
    · have w := k1.sl j s e
      cases s with
      | no => exact True.intro
      | im y =>
        obtain ⟨u, b1, b2⟩ := w
        exact ⟨u, b1, Py.mono s1 b2⟩
      | ow y =>
        obtain ⟨u, b1, b2⟩ := w
        refine ⟨u, b1, Own.mono s1 (fun p hp => ?_) b2⟩
        obtain ⟨_, _, o, a3⟩ := k1.off j p hp
        rw [a3]
        exact hH p o (fun m => ne (k1.dj j i p hp m)) a3
end
section
variable {P : Program} {w : World} {mg : Str → Option Value} {base : Heap} {ω α β : Type} [Own ω] [Anch ω] [Sls α] [Py β]
theorem start_knM {v0 : V} {ps : List Addr} {z : ω} {vs : List V} {a : α} {N : List Str} (e : Same S H) (ho : Own.own K S H v0 ps z) (hps : ∀ p ∈ ps, S p = none ∧ ∃ o, H p = some o) (r : PyA.rep K S vs a) :
    Kn K (fun p => if p ∈ ps then none else H p) S S (L2.start N (v0 :: vs)) H (fun i => if i = 0 then ps else []) (.ow z :: Sls.sls a ++ List.replicate (N.length - (PyA.n α + 1)) .no) := by
  obtain ⟨l, q⟩ := Sls.ok (H := H) r
  have hn := PyA.len r
  refine ⟨Same.refl _, e, fun p o hp => ?_, fun _ _ _ => rfl, fun i p hp => ?_, fun i j p hp hp' => ?_, ?_, fun i s hi => ?_⟩
  · by_cases m : p ∈ ps
    · rw [if_pos m] at hp
      cases hp
    · rw [if_neg m] at hp
      exact hp
  · by_cases c : i = 0
    · rw [if_pos c] at hp
      exact ⟨(hps p hp).1, if_pos hp, (hps p hp).2⟩
    · rw [if_neg c] at hp
      cases hp
  · by_cases c : i = 0
    · by_cases c' : j = 0
      · rw [c, c']
      · rw [if_neg c'] at hp'
        cases hp'
    · rw [if_neg c] at hp
      cases hp
  · unfold L2.start
    rw [List.length_append, List.length_append, List.length_map, List.length_replicate, List.length_replicate, List.length_cons, List.length_cons, l, hn]
  · unfold L2.start
    cases i with
    | zero =>
      simp only [List.cons_append, List.getElem?_cons_zero, Option.some.injEq] at hi
      subst hi
      exact ⟨v0, rfl, ho⟩
    | succ i =>
      simp only [List.cons_append, List.getElem?_cons_succ, List.map_cons] at hi ⊢
      by_cases c : i < (Sls.sls a).length
      · rw [List.getElem?_append_left c] at hi
        rw [List.getElem?_append_left (by rw [List.length_map, ← l]; exact c)]
        have := q i s hi
        rw [if_neg (Nat.succ_ne_zero i)]
        exact this
      · rw [List.getElem?_append_right (by omega)] at hi
        have : s = .no := by
          have := List.mem_of_getElem? hi
          exact List.eq_of_mem_replicate this
        subst this
        exact True.intro
theorem def_spM {x : Str} {st : Stmt} {N ps : List Str} {k : Nat} {f : ω → α → β × ω} {pre : ω → α → Prop} (D : Def K mg x st ps) (S : FnScope N ps (defScope st)) (hn : PyA.n α + 1 = ps.length) (hA : ∀ z a, pre z a → Anch.fp (f z a).2 = Anch.fp z)
    (h : ∀ (fa : Addr) (cdv : Value) (A : Around) (outer : List Env) (s : Shared) (H : Hp) (E : XK), Room k (A.deeper (envOfC x (defScope st) s.heap.objs.size fa cdv)) →
      ∃ t, PSs (cxOf CX0 P w K mg base N x (defScope st) fa cdv A outer s H E).nox (defBody st) t ∧
        ∀ (z : ω) (a : α), pre z a → ∀ (B S0 : Hp) (Q : VK), (∀ (G' : List Sl) y z', G'[0]? = some (.ow z') → (y, z') = f z a → RT K B S0 Q y G') → At K B S0 (t { nx := fun _ H' => Q .non H', rt := Q }) (.ow z :: Sls.sls a ++ List.replicate (N.length - (PyA.n α + 1)) .no)) :
    Cal P w K mg base (k + 1) x ps (spM K f pre) := by
  obtain ⟨fa, fd, m, Fu, b⟩ := D.ex
  refine ⟨fa, fd, m, Fu.ok S (fun vs H Q E ⟨S, v0, ws, qs, z, a, e, _, _, _, r, _⟩ => by rw [e, List.length_cons, PyA.len r]; exact hn) fun cdv A outer s H vs Q E hr ⟨S', v0, ws, qs, z, a, e, es, ho, hqs, r, hp, q⟩ => ?_, Fu.kp, b⟩
  subst e
  obtain ⟨t, h1, h2⟩ := h fa cdv A outer s H E hr
  refine ⟨t, h1, ?_⟩
  have kn := start_knM (N := N) es ho hqs r
  refine h2 z a hp _ S' Q (fun G' y z' hz ey S1 σ1 H1 F1 v k1 r1 => ?_) S' _ H _ kn
  obtain ⟨v1, _, o1⟩ := k1.ow hz
  have e1 : z' = (f z a).2 := by rw [← ey]
  have e2 : y = (f z a).1 := by rw [← ey]
  have ef : (v1, F1 0) = (v0, qs) := (Anch.at_ o1).trans (by rw [e1, hA z a hp]; exact (Anch.at_ ho).symm)
  have ev : v1 = v0 := congrArg Prod.fst ef
  have eF : F1 0 = qs := congrArg Prod.snd ef
  rw [ev, eF] at o1
  subst e1 e2
  refine q v S1 H1 k1.s0 k1.sub (fun p o m e => k1.keep p o (by rw [if_neg m]; exact e)) (fun p o e => ?_) (fun p m => ?_) o1 r1
  · by_cases m : p ∈ qs
    · rw [(k1.off 0 p (by rw [eF]; exact m)).1, (hqs p m).1]
    · exact k1.clean p o (by rw [if_neg m]; exact e)
  · exact (k1.off 0 p (by rw [eF]; exact m)).2.2
end
end
end GL
namespace GL
open PySem PySem.Spec PyProof.Rows L2
section
variable {K : Fg} {B S0 S1 S S' : Hp} {σ : L2.St} {H H' : Hp} {F : Nat → List Addr} {G G' G1 G2 G3 : List Sl} {ta tb tc te : TE} {i j : Nat} {u : TS} {E : Ends}
section
variable {α β γ : Type} [Py α] [Py β] [Py γ]
theorem mk_list {p : Addr} {vs : List V} {xs : List α} {Q : VK} (k : Kn K B S0 S σ H F G) (hp : H p = none) (r : RepL K S vs xs)
    (q : ∀ p vs S' H', Same S S' → Kn K B S0 S' σ H' F G → S' p = none → B p = none → (∀ j, p ∉ F j) → H' p = some (.lst vs) → RepL K S' vs xs → Q (.ref p) H') : Q (.ref p) (upd H p (.lst vs)) := by
  obtain ⟨a, b, c⟩ := k.free hp
  exact q p vs S _ (Same.refl _) (k.raw hp) a b c upd_same r
theorem RepL.rg {K : Fg} {S : Hp} (a b : Int) : RepL K S (rgV a b) (rng a b) := by
  unfold rgV rng
  generalize (List.range (b - a).toNat) = l
  induction l with
  | nil => exact True.intro
  | cons x l ih => exact ⟨rfl, ih⟩
def rListS (K : Fg) : List V → Hp → VK → Prop := fun xs H Q => ∃ p ys, xs = [.ref p] ∧ (SqL K H p ys ∨ SqT K H p ys) ∧ ∀ l, H l = none → Q (.ref l) (upd H l (.lst ys))
def rTupS (K : Fg) : List V → Hp → VK → Prop := fun xs H Q => ∃ p ys, xs = [.ref p] ∧ ((SqL K H p ys ∧ ∀ l, H l = none → Q (.ref l) (upd H l (.tup ys))) ∨ (SqT K H p ys ∧ Q (.ref p) H))
theorem el_rep {xs : List α} {n : Int} (ha : EvX K ta G xs G1) (hb : EvX K tb G1 n G2) (hn : n < 9223372036854775808 ∧ -9223372036854775808 ≤ n) (hz : xs.length * n.toNat ≤ sizeLine) : EvL K (tOp rRep ta tb) G (List.replicate n.toNat xs).flatten G2 := fun B S0 S σ H F k Q q =>
  ha B S0 S σ H F k _ fun v S1 H1 e1 k1 r1 => hb B S0 S1 σ H1 F k1 _ fun w S2 H2 e2 k2 r2 => by
    obtain ⟨p, vs, rfl, hp, hr⟩ := Py.mono e2 r1
    exact ⟨p, n, vs, rfl, r2, k2.sub _ _ hp, hn.2, hn.1, by rw [hr.len]; exact hz, fun l hl => mk_list k2 hl (hr.rep n.toNat) fun p vs S3 H3 e3 k3 a b c d r => q p vs S3 H3 ((e1.trans e2).trans e3) k3 a b c d r⟩
def cutL {δ : Type} (xs : List δ) (lo hi : Option Int) : List δ := (xs.drop (HT.sIx xs.length 0 lo)).take (HT.sIx xs.length xs.length hi - HT.sIx xs.length 0 lo)
def EvO (K : Fg) (t : TO) (G : List Sl) (o : Option Int) : Prop := ∀ B S0 S σ H F, Kn K B S0 S σ H F G → ∀ Q : Option Int → Hp → Prop, (∀ S' H', Same S S' → Kn K B S0 S' σ H' F G → Q o H') → t σ H Q
def srt (xs : List Int) : List Int := xs.mergeSort fun a b => decide (a ≤ b)
def rSortDI : List V → Hp → VK → Prop := fun xs H Q => ∃ (a : Addr) (kvs : List (Key × V)) (ks : List Int), xs = [.ref a] ∧ Rd H a (.dK kvs) ∧ kvs.map (·.1) = ks.map Sum.inl ∧ ks.length < 64 ∧
    ∀ (ys : List Int) (p : Addr), ys.Perm ks → ys.Pairwise (· ≤ ·) → H p = none → Q (.ref p) (upd H p (.lst (ys.map V.int)))
theorem RepD.keys : ∀ {kvs : List (Key × V)} {xs : List (Int × α)}, RepD K S kvs xs → kvs.map (·.1) = (xs.map (·.1)).map Sum.inl
  | [], [], _ => rfl
  | _ :: _, _ :: _, h => by rw [List.map_cons, List.map_cons, List.map_cons, RepD.keys h.2.2, h.1]
  | [], _ :: _, h => h.elim
  | _ :: _, [], h => h.elim
end
class Dt (α : Type) [Py α] where
  dat : α → PyData
  dp : ∀ {K : Fg} {S H : Hp} {v : V} {x : α}, Same S H → Py.rep K S v x → Dp K H v (dat x)
  lay : ∀ x : α, (dat x).canLay0 = true
  dep : Nat
  dle : ∀ x : α, (dat x).depth ≤ dep
  eq : ∀ x y : α, (PyData.eqv (dat x) (dat y) = true) ↔ x = y
section
variable {α β γ : Type} [Py α] [Py β] [Py γ]
instance : Dt Int := ⟨PyData.int, fun _ h => by rw [show _ = V.int _ from h]; exact .int _, fun _ => rfl, 0, fun _ => Nat.le_refl _, fun x y => by simp [PyData.eqv]⟩
instance : Dt Bool := ⟨PyData.bool, fun _ h => by rw [show _ = V.bl _ from h]; exact .bl _, fun _ => rfl, 0, fun _ => Nat.le_refl _, fun x y => by simp [PyData.eqv]⟩
theorem dpAll [Dt α] (e : Same S H) : ∀ {vs : List V} {xs : List α}, RepL K S vs xs → DpAll K H vs (xs.map Dt.dat)
  | [], [], _ => .nil
  | _ :: _, _ :: _, h => .cons (Dt.dp e h.1) (dpAll e h.2)
  | [], _ :: _, h => h.elim
  | _ :: _, [], h => h.elim
theorem layAll [Dt α] : ∀ xs : List α, PyData.canLayAll0 (xs.map Dt.dat) = true
  | [] => rfl
  | x :: xs => by rw [List.map_cons, PyData.canLayAll0, Dt.lay, layAll xs]; rfl
theorem depAll [Dt α] : ∀ xs : List α, PyData.depthAll (xs.map Dt.dat) ≤ Dt.dep α
  | [] => by rw [List.map_nil, PyData.depthAll]; exact Nat.zero_le _
  | x :: xs => by
    rw [List.map_cons, PyData.depthAll]
    have h1 := Dt.dle x
    have h2 := depAll xs
    omega
theorem eqAll [Dt α] : ∀ xs ys : List α, (PyData.eqvAll (xs.map Dt.dat) (ys.map Dt.dat) = true) ↔ xs = ys
  | [], [] => by simp [PyData.eqvAll]
  | [], _ :: _ => by simp [PyData.eqvAll]
  | _ :: _, [] => by simp [PyData.eqvAll]
  | x :: xs, y :: ys => by
    rw [List.map_cons, List.map_cons, PyData.eqvAll, Bool.and_eq_true, Dt.eq, eqAll xs ys, List.cons.injEq]
instance [Dt α] : Dt (List α) := ⟨fun xs => .list (xs.map Dt.dat), fun e ⟨p, vs, h1, h2, h3⟩ => by rw [h1]; exact .lst (SqL.of (e _ _ h2)) (dpAll e h3), fun xs => by rw [PyData.canLay0]; exact layAll xs, Dt.dep α + 1,
  fun xs => by rw [PyData.depth]; exact Nat.succ_le_succ (depAll xs), fun xs ys => by rw [PyData.eqv]; exact eqAll xs ys⟩
instance [Dt α] : Dt (Tp α) := ⟨fun xs => .tuple (xs.l.map Dt.dat), fun e ⟨p, vs, h1, h2, h3⟩ => by rw [h1]; exact .tup (seqT e h2) (dpAll e h3), fun xs => by rw [PyData.canLay0]; exact layAll xs.l, Dt.dep α + 1,
  fun xs => by rw [PyData.depth]; exact Nat.succ_le_succ (depAll xs.l), fun xs ys => by
    rw [PyData.eqv, eqAll]
    cases xs; cases ys
    simp⟩
instance [Dt α] [Dt β] : Dt (α × β) := ⟨fun x => .tuple [Dt.dat x.1, Dt.dat x.2], fun e ⟨p, a, b, h1, h2, h3, h4⟩ => by rw [h1]; exact .tup (seqT e h2) (.cons (Dt.dp e h3) (.cons (Dt.dp e h4) .nil)),
  fun x => by simp [PyData.canLay0, PyData.canLayAll0, Dt.lay], max (Dt.dep α) (Dt.dep β) + 1, fun x => by
    have h1 := Dt.dle x.1
    have h2 := Dt.dle x.2
    simp only [PyData.depth, PyData.depthAll]
    omega, fun x y => by
    simp only [PyData.eqv, PyData.eqvAll, Bool.and_eq_true, Dt.eq, and_true]
    exact ⟨fun h => Prod.ext h.1 h.2, fun h => by rw [h]; exact ⟨rfl, rfl⟩⟩⟩
instance [Dt α] [Dt β] [Dt γ] : Dt (T3 α β γ) := ⟨fun x => .tuple [Dt.dat x.a, Dt.dat x.b, Dt.dat x.c], fun e ⟨p, a, b, c, h1, h2, h3, h4, h5⟩ => by rw [h1]; exact .tup (seqT e h2) (.cons (Dt.dp e h3) (.cons (Dt.dp e h4) (.cons (Dt.dp e h5) .nil))),
  fun x => by simp [PyData.canLay0, PyData.canLayAll0, Dt.lay], max (Dt.dep α) (max (Dt.dep β) (Dt.dep γ)) + 1, fun x => by
    have h1 := Dt.dle x.a
    have h2 := Dt.dle x.b
    have h3 := Dt.dle x.c
    simp only [PyData.depth, PyData.depthAll]
    omega, fun x y => by
    simp only [PyData.eqv, PyData.eqvAll, Bool.and_eq_true, Dt.eq, and_true]
    cases x; cases y
    simp⟩
theorem shapedD [Dt α] (h : Dt.dep α ≤ 64) (x : α) : SeqAt.shaped (Dt.dat x) = true := by
  unfold SeqAt.shaped
  rw [Dt.lay, decide_eq_true (Nat.le_trans (Dt.dle x) h)]
  rfl
theorem eqvD [Dt α] [DecidableEq α] (x y : α) : PyData.eqv (Dt.dat x) (Dt.dat y) = decide (x = y) := by
  by_cases e : x = y
  · rw [decide_eq_true e]
    exact (Dt.eq x y).mpr e
  · rw [decide_eq_false e]
    exact Bool.eq_false_iff.mpr fun h => e ((Dt.eq x y).mp h)
end
theorem ev_chain {f f' : Int → Int → Bool} {a b c : Int} (ha : EvX K ta G a G) (hb : EvX K tb G b G) (hc : EvX K tc G c G) : EvX K (tChain (rI0 fun i j => .bl (f i j)) (rI0 fun i j => .bl (f' i j)) ta tb tc) G (f a b && f' b c) G := fun B S0 S σ H F k Q q =>
  ha B S0 S σ H F k _ fun v S1 H1 e1 k1 r1 => hb B S0 S1 σ H1 F k1 _ fun w S2 H2 e2 k2 r2 => ⟨a, b, r1, r2, f a b, rfl, by
    cases hf : f a b with
    | true =>
      rw [if_pos rfl]
      exact hc B S0 S2 σ H2 F k2 _ fun x S3 H3 e3 k3 r3 => ⟨b, c, r2, r3, q _ S3 H3 ((e1.trans e2).trans e3) k3 (by rw [hf]; rfl)⟩
    | false =>
      rw [if_neg Bool.false_ne_true]
      exact q _ S2 H2 (e1.trans e2) k2 (by rw [hf]; rfl)⟩
theorem ev_isN {α : Type} [Py α] {x : Option α} (hx : ∀ (K : Fg) (S : Hp) (v : V) (y : α), Py.rep K S v y → v ≠ .non) (ha : EvX K ta G x G1) : EvX K (tIsN ta) G x.isNone G1 := fun B S0 S σ H F k Q q =>
  ha B S0 S σ H F k _ fun v S1 H1 e1 k1 r1 => q _ S1 H1 e1 k1 (by
    cases x with
    | none => rw [show v = .non from r1]; rfl
    | some y => exact congrArg V.bl (decide_eq_false (hx K S1 v y r1)))
theorem ev_notN {α : Type} [Py α] {x : Option α} (hx : ∀ (K : Fg) (S : Hp) (v : V) (y : α), Py.rep K S v y → v ≠ .non) (ha : EvX K ta G x G1) : EvX K (tNotN ta) G x.isSome G1 := fun B S0 S σ H F k Q q =>
  ha B S0 S σ H F k _ fun v S1 H1 e1 k1 r1 => q _ S1 H1 e1 k1 (by
    cases x with
    | none => rw [show v = .non from r1]; rfl
    | some y => exact congrArg V.bl (by rw [decide_eq_false (hx K S1 v y r1)]; rfl))
theorem q_retL {α : Type} [Py α] {xs : List α} (h : EvL K te G xs G1) (k : ∀ S σ H F p vs, Kn K B S0 S σ H F G1 → S p = none → B p = none → (∀ j, p ∉ F j) → H p = some (.lst vs) → RepL K S vs xs → E.rt (.ref p) H) : At K B S0 (tSeq (tRet te) u E) G := fun S σ H F kn =>
  h B S0 S σ H F kn _ fun p vs S' H' e kn' hs hb hf hp r => k S' σ H' F p vs kn' hs hb hf hp r
theorem ev_ixS {xs : Scr} {n : Int} (ha : EvX K ta G xs G1) (hb : EvX K tb G1 n G2) (h : 0 ≤ n ∧ n < xs.l.length) : EvX K (tOp (rIxL K) ta tb) G (ix xs.l n) G2 := fun B S0 S σ H F k Q q =>
  ha B S0 S σ H F k _ fun v S1 H1 e1 k1 r1 => hb B S0 S1 σ H1 F k1 _ fun w S2 H2 e2 k2 r2 => by
    obtain ⟨p, rfl, hp⟩ := Py.mono e2 r1
    refine ⟨p, _, n, .int (ix xs.l n), rfl, r2, k2.sub.seq hp, atI_of h.1 ?_, q _ S2 H2 (e1.trans e2) k2 rfl⟩
    rw [List.getElem?_map, ix_at h.1 h.2]
    rfl
theorem ev_spr0 {z : Spr} (hi : G[i]? = some (.ow z)) : EvX K (tOp (rIxL K) (tVar i) (tC (.int 0))) G z.z G := fun B S0 S σ H F k Q q => by
  obtain ⟨v, h1, h2, h3, h4⟩ := k.ow hi
  exact ⟨v, h1, z.a, _, 0, .int z.z, h2, rfl, SqL.of h4, atI_nat (j := 0) rfl, q _ S H (Same.refl _) k rfl⟩
theorem q_sprset {z : Spr} {n : Int} (h : EvX K te G n G) (hi : G[i]? = some (.ow z)) (k : At K B S0 (u E) (G.set i (.ow (Spr.mk z.a n)))) : At K B S0 (tSeq (tAsg te (gSub (tVar i) (tC (.int 0)) rSetL)) u E) G := fun S σ H F kn =>
  h B S0 S σ H F kn _ fun v S1 H1 e1 k1 r1 => by
    obtain ⟨w, h1, h2, h3, h4⟩ := k1.ow hi
    refine ⟨w, h1, z.a, _, 0, 0, h2, rfl, h4, rfl, k S1 σ _ F ?_⟩
    rw [show v = .int n from r1]
    refine k1.mut h1 (fun q hq => upd_ne fun e => hq (by rw [h3, e]; exact List.mem_singleton.mpr rfl)) (fun q hq => ?_) ⟨h2, h3, upd_same⟩
    rw [h3] at hq
    cases List.mem_singleton.mp hq
    exact ⟨_, upd_same⟩
end
end GL
namespace GL
open PySem PySem.Spec PyProof.Rows L2
def spLaw (K : Fg) : Sp := fun vs H Q _ => ∃ (a : Addr) (ns : List Int), vs = [.ref a] ∧ SqL K H a (ns.map V.int) ∧ ns.length ≤ 63 ∧ ∀ H', Q (.bl true) H'
def spSpring (K : Fg) : Sp := fun vs H Q _ => ∃ (S : Hp) (a : Scr × Int × Unit), Same S H ∧ PyA.rep K S vs a ∧ (0 ≤ a.2.1 ∧ a.2.1 ≤ 1000) ∧ ∀ z p S' H', Grow S H S' H' → H p = none → S' p = none → H' p = some (.lst [.int z]) → Q (.ref p) H'
section
variable {P : Program} {w : World} {K : Fg} {mg : Str → Option Value} {base : Heap}
theorem fn_law {st : Stmt} {fa : Addr} {fd : FuncData} {N : List Str} {k : Nat} (F : Fun K "law" "law" st fa fd) (S : FnScope N ["script"] (defScope st))
    (h : ∀ (cdv : Value) (A : Around) (outer : List Env) (s : Shared) (H : Hp) (E : XK), Room k (A.deeper (envOfC "law" (defScope st) s.heap.objs.size fa cdv)) →
      ∃ t, PSs (cxOf CX0 P w K mg base N "law" (defScope st) fa cdv A outer s H E).nox (defBody st) t ∧
        ∀ (a : Scr), a.l.length ≤ 63 → ∀ (B S0 : Hp) (Q : VK), (∀ (G' : List Sl) (y : Bool), y = true → RT K B S0 Q y G') → At K B S0 (t { nx := fun _ H' => Q .non H', rt := Q }) (.im a :: List.replicate (N.length - 1) .no)) :
    FnOk P w K mg base CX0 (k + 1) fa fd ["script"] (spLaw K) := by
  refine F.ok S (fun vs H Q E ⟨a, ns, e, _⟩ => by rw [e]; rfl) fun cdv A outer s H vs Q E hr ⟨a, ns, e, hs, hl, q⟩ => ?_
  subst e
  obtain ⟨t, h1, h2⟩ := h cdv A outer s H E hr
  have kn := start_kn (K := K) (H := H) (S := H) (vs := [.ref a]) (a := ((⟨ns⟩, ()) : Scr × Unit)) (N := N) (Same.refl _) ⟨.ref a, [], rfl, ⟨a, rfl, hs⟩, rfl⟩
  refine ⟨t, h1, h2 ⟨ns⟩ hl H H Q (fun G' y ey S1 σ1 H1 F1 v k1 r1 => ?_) H _ H _ kn⟩
  rw [show v = .bl y from r1, ey]
  exact q H1
theorem def_spring {x : Str} {st : Stmt} {N ps : List Str} {k : Nat} (D : Def K mg x st ps) (S : FnScope N ps (defScope st)) (hn : 2 = ps.length)
    (h : ∀ (fa : Addr) (cdv : Value) (A : Around) (outer : List Env) (s : Shared) (H : Hp) (E : XK), Room k (A.deeper (envOfC x (defScope st) s.heap.objs.size fa cdv)) →
      ∃ t, PSs (cxOf CX0 P w K mg base N x (defScope st) fa cdv A outer s H E).nox (defBody st) t ∧
        ∀ (scr : Scr) (n : Int), 0 ≤ n → n ≤ 1000 → ∀ (B S0 : Hp) (Q : VK), (∀ (z : Int) (G' : List Sl) S σ H F p vs, Kn K B S0 S σ H F G' → S p = none → B p = none → (∀ j, p ∉ F j) → H p = some (.lst vs) → RepL K S vs [z] → Q (.ref p) H) →
          At K B S0 (t { nx := fun _ H' => Q .non H', rt := Q }) (.im scr :: .im n :: List.replicate (N.length - 2) .no)) :
    Cal P w K mg base (k + 1) x ps (spSpring K) := by
  obtain ⟨fa, fd, m, Fu, b⟩ := D.ex
  refine ⟨fa, fd, m, Fu.ok S (fun vs H Q E ⟨S, a, _, r, _⟩ => (PyA.len r).trans hn) fun cdv A outer s H vs Q E hr ⟨S', a, e, r, hp, q⟩ => ?_, Fu.kp, b⟩
  obtain ⟨t, h1, h2⟩ := h fa cdv A outer s H E hr
  obtain ⟨scr, n, u⟩ := a
  refine ⟨t, h1, h2 scr n hp.1 hp.2 H S' Q (fun z G' S1 σ1 H1 F1 p vs k1 hs hb hf hp r1 => ?_) S' _ H _ (start_kn e r)⟩
  have er : vs = [.int z] := by rw [r1.ints]; rfl
  rw [er] at hp
  exact q z p S1 H1 ⟨k1.s0, k1.sub, k1.keep, k1.clean⟩ hb hs hp
end
section
variable {K : Fg} {B S0 : Hp} {G G1 : List Sl} {t : TA} {E : XK} {u : TS} {D : Ends}
theorem q_spring (i : Nat) {scr : Scr} {n : Int} (ha : EvA K t G (scr, n, ()) G1) (hp : 0 ≤ n ∧ n ≤ 1000) (hi : G1[i]?.isSome = true) (k : ∀ s : Spr, At K B S0 (u D) (G1.set i (.ow s))) : At K B S0 (tSeq (tAsg (tCall (spSpring K) [] E t) (gName i)) u D) G := fun S σ H F kn =>
  ha B S0 S σ H F kn _ fun vs S1 H1 e1 k1 r1 => by
    show spSpring K (vs ++ []) H1 _ E
    rw [List.append_nil]
    refine ⟨S1, _, k1.sub, r1, hp, fun z p S2 H2 g hn hs h2 => ?_⟩
    obtain ⟨_, b, c⟩ := k1.free hn
    exact k ⟨p, z⟩ S2 _ H2 _ ((k1.grow g).setOwn (v := .ref p) (x := Spr.mk p z) ⟨rfl, rfl, h2⟩ hi hs b ⟨_, h2⟩ c)
end
@[irreducible] def lawCup (z : Spr) (m : Int) : Int × Spr := (z.z % m, ⟨z.a, z.z / m⟩)
theorem cup_bd (z : Spr) {m : Int} (h : 0 < m) : 0 ≤ (lawCup z m).1 ∧ (lawCup z m).1 < m := by
  unfold lawCup
  exact ⟨Int.emod_nonneg _ (by omega), Int.emod_lt_of_pos _ h⟩
theorem cup_a (z : Spr) (m : Int) : (lawCup z m).2.a = z.a := by unfold lawCup; rfl
theorem le_line {n : Nat} (h : n ≤ 1000000) : n ≤ sizeLine := Nat.le_trans h (by decide)
theorem lt_line {n : Nat} (h : n ≤ 1000000) : n < sizeLine := Nat.lt_of_le_of_lt h (by decide)
end GL
namespace GL
open PySem PySem.Spec PyProof.Rows L2
def rRepTA (K : Fg) : R2 := fun x y H Q => ∃ l k xs, x = .ref l ∧ y = .int k ∧ SqT K H l xs ∧ xs ≠ [] ∧ -1000 ≤ k ∧ k ≤ 1000 ∧ xs.length ≤ 1000 ∧ (k ≤ 0 → ∀ p, H p = none → Q (.ref p) (upd H p (.tup []))) ∧ (k = 1 → Q (.ref l) H) ∧
  (2 ≤ k → ∀ p, H p = none → Q (.ref p) (upd H p (.tup (List.replicate k.toNat xs).flatten)))
section
variable {K : Fg} {G G1 G2 : List Sl} {ta tb : TE} {α : Type} [Py α]
end
end GL
set_option maxHeartbeats 4000000
namespace L2
open PySem PySem.Spec PyProof.Rows
section
variable {P : Program} {w : World} {A : Around} {E : Value → Shared → Prop} {s : Shared}
end
section
variable {X : Cx}
def tSortSet (K : PySem.W.Frag) (ta : TE) : TE := fun σ H Q => ta σ H fun x H1 => ∃ (l : Addr) (ns : List Int), x = V.ref l ∧ SqL K H1 l (ns.map V.int) ∧ ns.length < 64 ∧
  ∀ (ms : List Int) (p : Addr), ms.Pairwise (· < ·) → (∀ k : Int, k ∈ ms ↔ k ∈ ns) → H1 p = none → Q (.ref p) (upd H1 p (.lst (ms.map V.int)))
end
end L2
namespace GL
open PySem PySem.Spec PyProof.Rows L2
section
variable {K : Fg} {B S0 S1 S S' : Hp} {σ : L2.St} {H H' : Hp} {F : Nat → List Addr} {G G' G1 G2 G3 : List Sl} {ta tb tc te : TE} {i j : Nat} {u : TS} {E : Ends}
def usrt (xs : List Int) : List Int := srt xs.eraseDups
end
end GL
namespace GL
open PySem PySem.Spec PyProof.Rows L2
section
variable {K : Fg} {B S0 S1 S S' : Hp} {σ : L2.St} {H H' : Hp} {F : Nat → List Addr} {G G' G1 G2 G3 : List Sl} {ta tb tc te : TE} {i j : Nat} {u : TS} {D : Ends}
class Ty (α : Type) [Py α] (n : outParam String) where
  ty : ∀ {K : Fg} {S H : Hp} {v : V} {x : α}, Same S H → Py.rep K S v x → TyX K H v (.type n)
theorem tyT {p : Addr} {vs : List V} (e : Same S H) (h : SqT K S p vs) : TyX K H (.ref p) (.type "tuple") := by
  rcases seqT e h with (h | ⟨o, h⟩) | ⟨o, its, n, h1, h2, _⟩
  · exact .base (.tup h)
  · exact .fTuple h
  · exact .kTuple h1 h2
instance : Ty Int "int" := ⟨fun _ h => by rw [show _ = V.int _ from h]; exact .base (.int _)⟩
instance : Ty Bool "bool" := ⟨fun _ h => by rw [show _ = V.bl _ from h]; exact .base (.bl _)⟩
instance : Ty Str "str" := ⟨fun _ h => by rw [show _ = V.str _ from h]; exact .base (.str _)⟩
instance {α : Type} [Py α] : Ty (List α) "list" := ⟨fun e ⟨p, vs, h1, h2, _⟩ => by rw [h1]; exact .base (.lst (e _ _ h2))⟩
instance {α : Type} [Py α] : Ty (Tp α) "tuple" := ⟨fun e ⟨p, vs, h1, h2, _⟩ => by rw [h1]; exact tyT e h2⟩
instance {α β : Type} [Py α] [Py β] : Ty (α × β) "tuple" := ⟨fun e ⟨p, a, b, h1, h2, _⟩ => by rw [h1]; exact tyT e h2⟩
instance {α β γ : Type} [Py α] [Py β] [Py γ] : Ty (T3 α β γ) "tuple" := ⟨fun e ⟨p, a, b, c, h1, h2, _⟩ => by rw [h1]; exact tyT e h2⟩
inductive Bk (vs : List Nat) : Nat → List Sl → List Sl → List Sl → Prop
  | n {i : Nat} : Bk vs i [] [] []
  | a {i : Nat} {s o : Sl} {G' G4 G : List Sl} (h : i ∉ vs) : Bk vs (i + 1) G' G4 G → Bk vs i (s :: G') (s :: G4) (o :: G)
  | b {i : Nat} {s o : Sl} {G' G4 G : List Sl} (h : s.isOw = false) : Bk vs (i + 1) G' G4 G → Bk vs i (s :: G') (o :: G4) (s :: G)
theorem Bk.get {vs : List Nat} : ∀ {i : Nat} {Gn G4 G : List Sl}, Bk vs i Gn G4 G → ∀ (j : Nat) (sl : Sl), Gn[j]? = some sl → (i + j ∉ vs ∧ G4[j]? = some sl) ∨ (sl.isOw = false ∧ G[j]? = some sl)
  | _, _, _, _, .n, j, sl, e => by simp at e
  | i, _, _, _, .a h t, 0, sl, e => by
    simp only [List.getElem?_cons_zero, Option.some.injEq] at e
    subst e
    exact .inl ⟨h, rfl⟩
  | i, _, _, _, .b h t, 0, sl, e => by
    simp only [List.getElem?_cons_zero, Option.some.injEq] at e
    subst e
    exact .inr ⟨h, rfl⟩
  | i, _, _, _, .a h t, j + 1, sl, e => by
    have := Bk.get t j sl (by simpa using e)
    rw [show i + 1 + j = i + (j + 1) by omega] at this
    simpa using this
  | i, _, _, _, .b h t, j + 1, sl, e => by
    have := Bk.get t j sl (by simpa using e)
    rw [show i + 1 + j = i + (j + 1) by omega] at this
    simpa using this
theorem Bk.len {vs : List Nat} : ∀ {i : Nat} {Gn G4 G : List Sl}, Bk vs i Gn G4 G → Gn.length = G.length
  | _, _, _, _, .n => rfl
  | _, _, _, _, .a _ t => by rw [List.length_cons, List.length_cons, t.len]
  | _, _, _, _, .b _ t => by rw [List.length_cons, List.length_cons, t.len]
def mapX {τ α β : Type} (e : τ → α → β) (step : τ → α → τ) (xs : List α) (s0 : τ) : List β × τ := xs.foldl (fun a x => (a.1 ++ [e a.2 x], step a.2 x)) ([], s0)
def spR {ω α β : Type} [Own ω] [Anch ω] [PyA α] [Py β] (K : Fg) (ω' : Type := ω) (R : α → β → Prop) (pre : α → Prop) : Sp := fun vs H Q _ => ∃ (S : Hp) (v0 : V) (ws : List V) (ps : List Addr) (z : ω) (a : α), vs = v0 :: ws ∧ Same S H ∧ Own.own K S H v0 ps z ∧
  (∀ p ∈ ps, S p = none ∧ ∃ o, H p = some o) ∧ PyA.rep K S ws a ∧ pre a ∧ ∀ v S' H' (y : β) (z' : ω), R a y → Anch.fp z' = Anch.fp z → Same S S' → Same S' H' → (∀ p o, p ∉ ps → H p = some o → H' p = some o) → (∀ p o, H p = some o → S' p = S p) → (∀ p ∈ ps, ∃ o, H' p = some o) →
    Own.own K S' H' v0 ps z' → Py.rep K S' v y → Q v H'
abbrev spRS {α β : Type} [PyA α] [Py β] (K : Fg) (R : α → β → Prop) (pre : α → Prop) : Sp := spR (ω := Spr) K Spr R pre
section
variable {α β : Type} [PyA α] [Py β] {R : α → β → Prop} {pre : α → Prop} {z z1 : Spr} {a : α} {t : TA} {E : XK} {g : TG}
theorem q_rel (j : Nat) (hj : G[j]? = some (.ow z)) (ha : EvA K t G a G1) (hj1 : G1[j]? = some (.ow z1)) (hp : pre a) (k : ∀ y (z' : Spr), R a y → z'.a = z1.a → ∃ G2 ts, TgG K g y (G1.set j (.ow z')) G2 ts ∧ At K B S0 (u D) G2) :
    At K B S0 (tSeq (tAsg (tCall (spRS K R pre) [] E (tCons (tVar j) t)) g) u D) G := fun S σ H F kn => by
  obtain ⟨v0, h1, h2⟩ := kn.ow hj
  refine ⟨v0, h1, ha B S0 S σ H F kn _ fun vs S1 H1 e1 k1 r1 => ?_⟩
  show spRS K R pre (v0 :: vs ++ []) H1 _ E
  rw [List.append_nil]
  obtain ⟨v1, h3, h4⟩ := k1.ow hj1
  rw [h1] at h3
  cases h3
  refine ⟨S1, v0, vs, F j, z1, a, rfl, k1.sub, h4, fun p hp => ⟨(k1.off j p hp).1, (k1.off j p hp).2.2⟩, r1, hp, fun v S2 H2 y z' hR hfp s1 s2 hk hc hl ho r2 => ?_⟩
  have hH : ∀ p o, p ∉ F j → H1 p = some o → H2 p = some o := hk
  have k2 : Kn K B S0 S2 σ H2 F (G1.set j (.ow z')) := by
    refine ⟨k1.s0.trans s1, s2, fun p o e => ?_, fun p o e => (hc p o (k1.keep p o e)).trans (k1.clean p o e), fun i p hp => ?_, k1.dj, by rw [List.length_set]; exact k1.len, fun i s e => ?_⟩
    · exact hH p o (fun m => by rw [(k1.off j p m).2.1] at e; cases e) (k1.keep p o e)
    · obtain ⟨a1, a2, o, a3⟩ := k1.off i p hp
      refine ⟨(hc p o a3).trans a1, a2, ?_⟩
      by_cases m : p ∈ F j
      · exact hl p m
      · exact ⟨o, hH p o m a3⟩
    · rcases set_get e with ⟨rfl, rfl⟩ | ⟨ne, e⟩
      · exact ⟨v0, h1, ho⟩
      · have w := k1.sl i s e
        cases s with
        | no => exact True.intro
        | im y =>
          obtain ⟨u, b1, b2⟩ := w
          exact ⟨u, b1, Py.mono s1 b2⟩
        | ow y =>
          obtain ⟨u, b1, b2⟩ := w
          refine ⟨u, b1, Own.mono s1 (fun p hp => ?_) b2⟩
          obtain ⟨_, _, o, a3⟩ := k1.off i p hp
          rw [a3]
          exact hH p o (fun m => ne (k1.dj i j p hp m)) a3
  have ea : z'.a = z1.a := by
    have := congrArg Prod.fst hfp
    exact V.ref.inj this
  obtain ⟨G2, ts, tg, hat⟩ := k y z' hR ea
  exact tg.2 B S0 S2 σ H2 F v k2 r2 _ fun σ' k3 _ _ => hat S2 σ' H2 F k3
end
end
section
variable {P : Program} {w : World} {K : Fg} {mg : Str → Option Value} {base : Heap} {α β : Type} [Sls α] [Py β]
theorem def_spR {x : Str} {st : Stmt} {N ps : List Str} {k : Nat} {R : α → β → Prop} {pre : α → Prop} (D : Def K mg x st ps) (S : FnScope N ps (defScope st)) (hn : PyA.n α + 1 = ps.length)
    (h : ∀ (fa : Addr) (cdv : Value) (A : Around) (outer : List Env) (s : Shared) (H : Hp) (E : XK), Room k (A.deeper (envOfC x (defScope st) s.heap.objs.size fa cdv)) →
      ∃ t, PSs (cxOf CX0 P w K mg base N x (defScope st) fa cdv A outer s H E).nox (defBody st) t ∧
        ∀ (z : Spr) (a : α), pre a → ∀ (B S0 : Hp) (Q : VK), (∀ (G' : List Sl) (y : β) (z' : Spr), G'[0]? = some (.ow z') → z'.a = z.a → R a y → RT K B S0 Q y G') → At K B S0 (t { nx := fun _ H' => Q .non H', rt := Q }) (.ow z :: Sls.sls a ++ List.replicate (N.length - (PyA.n α + 1)) .no)) :
    Cal P w K mg base (k + 1) x ps (spRS K R pre) := by
  obtain ⟨fa, fd, m, Fu, b⟩ := D.ex
  refine ⟨fa, fd, m, Fu.ok S (fun vs H Q E ⟨S, v0, ws, qs, z, a, e, _, _, _, r, _⟩ => by rw [e, List.length_cons, PyA.len r]; exact hn) fun cdv A outer s H vs Q E hr ⟨S', v0, ws, qs, z, a, e, es, ho, hqs, r, hp, q⟩ => ?_, Fu.kp, b⟩
  subst e
  obtain ⟨t, h1, h2⟩ := h fa cdv A outer s H E hr
  refine ⟨t, h1, ?_⟩
  have kn := start_knM (N := N) es ho hqs r
  refine h2 z a hp _ S' Q (fun G' y z' hz ea hR S1 σ1 H1 F1 v k1 r1 => ?_) S' _ H _ kn
  obtain ⟨v1, _, o1⟩ := k1.ow hz
  have hfp : Anch.fp z' = Anch.fp z := by
    show (V.ref z'.a, [z'.a]) = (V.ref z.a, [z.a])
    rw [ea]
  have ef : (v1, F1 0) = (v0, qs) := (Anch.at_ o1).trans (by rw [hfp]; exact (Anch.at_ ho).symm)
  have ev : v1 = v0 := congrArg Prod.fst ef
  have eF : F1 0 = qs := congrArg Prod.snd ef
  rw [ev, eF] at o1
  refine q v S1 H1 y z' hR hfp k1.s0 k1.sub (fun p o m e => k1.keep p o (by rw [if_neg m]; exact e)) (fun p o e => ?_) (fun p m => ?_) o1 r1
  · by_cases m : p ∈ qs
    · rw [(k1.off 0 p (by rw [eF]; exact m)).1, (hqs p m).1]
    · exact k1.clean p o (by rw [if_neg m]; exact e)
  · exact (k1.off 0 p (by rw [eF]; exact m)).2.2
end
end GL
namespace GL
open PySem PySem.Spec PyProof.Rows L2
end GL
namespace GL
open PySem PySem.Spec PyProof.Rows L2
section
variable {K : Fg} {B S0 S1 S S' : Hp} {σ : L2.St} {H H' : Hp} {F : Nat → List Addr} {G G' G1 G2 G3 : List Sl} {ta tb tc te : TE} {i j : Nat} {u : TS} {E : Ends}
theorem EvX.get {α : Type} [Py α] [Inhabited α] {x : Option α} (ha : EvX K ta G x G1) (h : x.isSome = true) : EvX K ta G (x.getD default) G1 := fun B S0 S σ H F k Q q =>
  ha B S0 S σ H F k _ fun v S1 H1 e1 k1 r1 => q v S1 H1 e1 k1 (by
    cases x with
    | none => exact absurd h Bool.false_ne_true
    | some y => exact r1)
theorem nn_int : ∀ (K : Fg) (S : Hp) (v : V) (y : Int), Py.rep K S v y → v ≠ .non := fun K S v y r e => by
  have h : v = .int y := r
  rw [h] at e
  cases e
instance : Dt Unit := ⟨fun _ => PyData.none, fun _ h => by rw [show _ = V.non from h]; exact .non, fun _ => rfl, 0, fun _ => Nat.le_refl _, fun x y => by simp [PyData.eqv]⟩
instance : Dt (Option Int) := ⟨fun x => match x with | none => PyData.none | some y => PyData.int y, fun {K S H v x} _ h => by
    cases x with
    | none => rw [show _ = V.non from h]; exact .non
    | some y => rw [show _ = V.int y from h]; exact .int _, fun x => by cases x <;> rfl, 0, fun x => by cases x <;> exact Nat.le_refl _, fun x y => by cases x <;> cases y <;> simp [PyData.eqv]⟩
def maxL : List Int → Int
  | [] => 0
  | x :: xs => xs.foldl max x
theorem le_foldl_max : ∀ (xs : List Int) (a : Int), a ≤ xs.foldl max a
  | [], a => Int.le_refl a
  | x :: xs, a => Int.le_trans (Int.le_max_left a x) (le_foldl_max xs (max a x))
theorem mem_foldl_max : ∀ (xs : List Int) (a y : Int), y ∈ xs → y ≤ xs.foldl max a
  | x :: xs, a, y, h => by
    rcases List.mem_cons.mp h with e | e
    · rw [e]; exact Int.le_trans (Int.le_max_right a x) (le_foldl_max xs (max a x))
    · exact mem_foldl_max xs (max a x) y e
theorem foldl_max_mem : ∀ (xs : List Int) (a : Int), xs.foldl max a = a ∨ xs.foldl max a ∈ xs
  | [], a => .inl rfl
  | x :: xs, a => by
    rcases foldl_max_mem xs (max a x) with e | e
    · rw [List.foldl_cons, e]
      by_cases h : a ≤ x
      · rw [Int.max_eq_right h]; exact .inr List.mem_cons_self
      · rw [Int.max_eq_left (by omega)]; exact .inl rfl
    · exact .inr (List.mem_cons_of_mem _ e)
theorem maxL_mem {xs : List Int} (h : xs ≠ []) : maxL xs ∈ xs := by
  cases xs with
  | nil => exact absurd rfl h
  | cons x xs =>
    rcases foldl_max_mem xs x with e | e
    · rw [show maxL (x :: xs) = xs.foldl max x from rfl, e]; exact List.mem_cons_self
    · exact List.mem_cons_of_mem _ e
theorem le_maxL {xs : List Int} {y : Int} (h : y ∈ xs) : y ≤ maxL xs := by
  cases xs with
  | nil => exact absurd h (by simp)
  | cons x xs =>
    rcases List.mem_cons.mp h with e | e
    · rw [e]; exact le_foldl_max xs x
    · exact mem_foldl_max xs x y e
theorem maxL_eq {xs : List Int} {m : Int} (h : m ∈ xs) (g : ∀ y ∈ xs, y ≤ m) : m = maxL xs :=
  Int.le_antisymm (le_maxL h) (g _ (maxL_mem (by intro e; rw [e] at h; simp at h)))
end
end GL
set_option maxHeartbeats 4000000
namespace L2
open PySem PySem.Spec PyProof.Rows
def le2 (a b : Int × Int) : Prop := a.1 < b.1 ∨ (a.1 = b.1 ∧ a.2 ≤ b.2)
section
variable {X : Cx}
def rSort2 (K : PySem.W.Frag) : List V → Hp → VK → Prop := fun vs H Q => ∃ (a : Addr) (xs : List V), vs = [V.ref a] ∧ SqL K H a xs ∧ (∀ x ∈ xs, ∃ m n : Int, TupI K H x [m, n]) ∧
  ∀ (ys : List V) (p : Addr), ys.Perm xs → ys.Pairwise (fun x y => ∀ m n m' n', TupI K H x [m, n] → TupI K H y [m', n'] → le2 (m, n) (m', n')) → H p = none → Q (.ref p) (upd H p (.lst ys))
theorem two_of {pins : List (Addr × Obj)} {σ : St} {H : Hp} {s : Shared} (I : Inv X pins σ H s) {t : Addr} {m n : Int} (h : SqT X.K H t [V.int m, V.int n]) :
    ∃ (o : Obj) (c : Nat) (u1 u2 : Tok), s.heap.get? t = some o ∧ o.cls = .type "tuple" ∧ o.data = .seq #[Value.int m u1, Value.int n u2] c := by
  obtain ⟨its, rv, hT, _⟩ := I.tuple h
  obtain ⟨o, ho, hc, c, hd⟩ := hT
  cases rv with
  | cons r1 rv =>
    cases rv with
    | cons r2 rv =>
      cases rv
      obtain ⟨u1, e1⟩ := r1
      obtain ⟨u2, e2⟩ := r2
      subst e1; subst e2
      exact ⟨o, c, u1, u2, ho, hc, hd⟩
theorem tupsOf_all {h : Heap} : ∀ {vs : List Value}, (∀ v ∈ vs, ∃ f, TupOf h (fun _ => false) v f) → ∃ fs, TupsOf h (fun _ => false) vs fs
  | [], _ => ⟨[], .nil⟩
  | v :: vs, q => by
    obtain ⟨f, hf⟩ := q v List.mem_cons_self
    obtain ⟨fs, hfs⟩ := tupsOf_all fun w hw => q w (List.mem_cons_of_mem _ hw)
    exact ⟨f :: fs, .cons hf hfs⟩
end
end L2
namespace GL
open PySem PySem.Spec PyProof.Rows L2
section
variable {K : Fg} {B S0 S1 S S' : Hp} {σ : L2.St} {H H' : Hp} {F : Nat → List Addr} {G G' G1 G2 G3 : List Sl} {ta tb tc te : TE} {i j : Nat} {u : TS} {E : Ends}
def le2b (a b : Int × Int) : Bool := decide (a.1 < b.1) || (decide (a.1 = b.1) && decide (a.2 ≤ b.2))
theorem le2b_iff {a b : Int × Int} : le2b a b = true ↔ le2 a b := by
  unfold le2b le2
  simp only [Bool.or_eq_true, Bool.and_eq_true, decide_eq_true_eq]
@[irreducible] def srt2 (xs : List (Int × Int)) : List (Int × Int) := xs.mergeSort le2b
theorem srt2_perm (xs : List (Int × Int)) : (srt2 xs).Perm xs := by unfold srt2; exact List.mergeSort_perm xs _
theorem srt2_sorted (xs : List (Int × Int)) : (srt2 xs).Pairwise le2 := by
  unfold srt2
  have h := List.pairwise_mergeSort (le := le2b) (fun a b c h1 h2 => by rw [le2b_iff] at *; unfold le2 at *; omega) (fun a b => by rw [Bool.or_eq_true, le2b_iff, le2b_iff]; unfold le2; omega) xs
  exact h.imp fun q => le2b_iff.mp q
theorem le2_anti {a b : Int × Int} (h1 : le2 a b) (h2 : le2 b a) : a = b := by
  unfold le2 at *
  exact Prod.ext (by omega) (by omega)
theorem srt2_eq {xs ys : List (Int × Int)} (p : ys.Perm xs) (s : ys.Pairwise le2) : ys = srt2 xs :=
  (p.trans (srt2_perm xs).symm).eq_of_pairwise (fun a b _ _ h1 h2 => le2_anti h1 h2) s (srt2_sorted xs)
theorem RepL.perm {α : Type} [Py α] : ∀ {vs ws : List V}, ws.Perm vs → ∀ {xs : List α}, RepL K S vs xs → ∃ ys : List α, ys.Perm xs ∧ RepL K S ws ys := by
  intro vs ws p
  induction p with
  | nil => intro xs h; exact ⟨xs, .refl _, h⟩
  | cons v p ih =>
    intro xs h
    cases xs with
    | nil => exact h.elim
    | cons x xs =>
      obtain ⟨ys, h1, h2⟩ := ih h.2
      exact ⟨x :: ys, h1.cons x, h.1, h2⟩
  | swap v w l =>
    intro xs h
    match xs, h with
    | x :: y :: xs, h => exact ⟨y :: x :: xs, .swap x y xs, h.2.1, h.1, h.2.2⟩
  | trans p1 p2 ih1 ih2 =>
    intro xs h
    obtain ⟨ys, h1, h2⟩ := ih2 h
    obtain ⟨zs, h3, h4⟩ := ih1 h2
    exact ⟨zs, h3.trans h1, h4⟩
theorem rep2 {v : V} {x : Int × Int} (e : Same S H) (h : Py.rep K S v x) : TupI K H v [x.1, x.2] := by
  obtain ⟨p, a, b, h1, h2, h3, h4⟩ := h
  have e3 : a = .int x.1 := h3
  have e4 : b = .int x.2 := h4
  subst e3; subst e4
  exact ⟨p, h1, seqT e h2⟩
theorem pw_le2 (e : Same S H) : ∀ {vs : List V} {xs : List (Int × Int)}, RepL K S vs xs → vs.Pairwise (fun x y => ∀ m n m' n', TupI K H x [m, n] → TupI K H y [m', n'] → le2 (m, n) (m', n')) → xs.Pairwise le2
  | [], [], _, _ => List.Pairwise.nil
  | v :: vs, x :: xs, h, hp => by
    have hp' := List.pairwise_cons.mp hp
    refine List.pairwise_cons.mpr ⟨fun y hy => ?_, pw_le2 e h.2 hp'.2⟩
    obtain ⟨i, hi, rfl⟩ := List.getElem_of_mem hy
    obtain ⟨w, hw, hr⟩ := h.2.get (List.getElem?_eq_getElem hi)
    exact hp'.1 w (List.mem_of_getElem? hw) _ _ _ _ (rep2 e h.1) (rep2 e hr)
end
end GL
namespace GL
open PySem PySem.Spec PyProof.Rows L2
section
variable {K : Fg} {B S0 S1 S S' : Hp} {σ : L2.St} {H H' : Hp} {F : Nat → List Addr} {G G' G1 G2 G3 : List Sl} {ta tb tc te : TE} {i j : Nat} {u : TS} {E : Ends}
section
variable {α : Type} [Py α]
end
section
variable {α β γ δ : Type} [Py α] [Py β] [Py γ] [Py δ]
def lG [Inhabited α] : Sum α β → α
  | .inl y => y
  | .inr _ => default
def rG [Inhabited β] : Sum α β → β
  | .inl _ => default
  | .inr y => y
theorem EvX.lG [Inhabited α] {x : Sum α β} (ha : EvX K ta G x G1) (h : x.isLeft = true) : EvX K ta G (GL.lG x) G1 := by
  cases x with
  | inl y => exact ha
  | inr y => exact absurd h Bool.false_ne_true
theorem EvX.rG [Inhabited β] {x : Sum α β} (ha : EvX K ta G x G1) (h : x.isRight = true) : EvX K ta G (GL.rG x) G1 := by
  cases x with
  | inl y => exact absurd h Bool.false_ne_true
  | inr y => exact ha
def sm0 : Sum (T3 α β γ) (α × δ) → α
  | .inl y => y.a
  | .inr y => y.1
def sm1 : Sum (T3 α β γ) (α × δ) → Sum β δ
  | .inl y => .inl y.b
  | .inr y => .inr y.2
def smL : Sum (T3 α β γ) (α × δ) → Sum γ δ
  | .inl y => .inl y.c
  | .inr y => .inr y.2
instance {n : String} [h : Ty α n] [Ty β n] : Ty (Sum α β) n := ⟨fun {K S H v x} e r => by
  cases x with
  | inl y => exact Ty.ty (x := y) e r
  | inr y => exact Ty.ty (x := y) e r⟩
end
end
end GL
namespace GL
open PySem PySem.Spec PyProof.Rows L2
section
variable {K : Fg} {B S0 S1 S S' : Hp} {σ : L2.St} {H H' : Hp} {F : Nat → List Addr} {G G' G1 G2 G3 : List Sl} {ta tb tc te : TE} {i j : Nat} {u : TS} {E : Ends}
variable {α β γ δ : Type} [Py α] [Py β] [Py γ] [Py δ]
class Dq (α : Type) [Py α] where
  dat : α → PyData
  ok : α → Prop
  dp : ∀ {K : Fg} {S H : Hp} {v : V} {x : α}, Same S H → Py.rep K S v x → Dp K H v (dat x)
  lay : ∀ x : α, ok x → (dat x).canLay0 = true
  dep : Nat
  dle : ∀ x : α, (dat x).depth ≤ dep
  eq : ∀ x y : α, (PyData.eqv (dat x) (dat y) = true) ↔ x = y
instance (priority := low) [Dt α] : Dq α := ⟨Dt.dat, fun _ => True, Dt.dp, fun x _ => Dt.lay x, Dt.dep α, Dt.dle, Dt.eq⟩
instance : Dq Str := ⟨PyData.str, fun x => (PyData.str x).canLay0 = true, fun _ h => by rw [show _ = V.str _ from h]; exact .str _, fun x h => h, 0, fun _ => Nat.le_refl _, fun x y => by simp [PyData.eqv]⟩
theorem dqAll [Dq α] (e : Same S H) : ∀ {vs : List V} {xs : List α}, RepL K S vs xs → DpAll K H vs (xs.map Dq.dat)
  | [], [], _ => .nil
  | _ :: _, _ :: _, h => .cons (Dq.dp e h.1) (dqAll e h.2)
  | [], _ :: _, h => h.elim
  | _ :: _, [], h => h.elim
theorem lqAll [Dq α] : ∀ xs : List α, (∀ x ∈ xs, Dq.ok x) → PyData.canLayAll0 (xs.map Dq.dat) = true
  | [], _ => rfl
  | x :: xs, h => by rw [List.map_cons, PyData.canLayAll0, Dq.lay x (h x List.mem_cons_self), lqAll xs fun y hy => h y (List.mem_cons_of_mem _ hy)]; rfl
theorem pqAll [Dq α] : ∀ xs : List α, PyData.depthAll (xs.map Dq.dat) ≤ Dq.dep α
  | [] => by rw [List.map_nil, PyData.depthAll]; exact Nat.zero_le _
  | x :: xs => by
    rw [List.map_cons, PyData.depthAll]
    have h1 := Dq.dle x
    have h2 := pqAll xs
    omega
theorem eqqAll [Dq α] : ∀ xs ys : List α, (PyData.eqvAll (xs.map Dq.dat) (ys.map Dq.dat) = true) ↔ xs = ys
  | [], [] => by simp [PyData.eqvAll]
  | [], _ :: _ => by simp [PyData.eqvAll]
  | _ :: _, [] => by simp [PyData.eqvAll]
  | x :: xs, y :: ys => by
    rw [List.map_cons, List.map_cons, PyData.eqvAll, Bool.and_eq_true, Dq.eq, eqqAll xs ys, List.cons.injEq]
instance (priority := 500) [Dq α] : Dq (List α) := ⟨fun xs => .list (xs.map Dq.dat), fun xs => ∀ x ∈ xs, Dq.ok x, fun e ⟨p, vs, h1, h2, h3⟩ => by rw [h1]; exact .lst (SqL.of (e _ _ h2)) (dqAll e h3), fun xs h => by rw [PyData.canLay0]; exact lqAll xs h, Dq.dep α + 1,
  fun xs => by rw [PyData.depth]; exact Nat.succ_le_succ (pqAll xs), fun xs ys => by rw [PyData.eqv]; exact eqqAll xs ys⟩
instance (priority := 500) [Dq α] [Dq β] : Dq (α × β) := ⟨fun x => .tuple [Dq.dat x.1, Dq.dat x.2], fun x => Dq.ok x.1 ∧ Dq.ok x.2, fun e ⟨p, a, b, h1, h2, h3, h4⟩ => by rw [h1]; exact .tup (seqT e h2) (.cons (Dq.dp e h3) (.cons (Dq.dp e h4) .nil)),
  fun x h => by simp [PyData.canLay0, PyData.canLayAll0, Dq.lay _ h.1, Dq.lay _ h.2], max (Dq.dep α) (Dq.dep β) + 1, fun x => by
    have h1 := Dq.dle x.1
    have h2 := Dq.dle x.2
    simp only [PyData.depth, PyData.depthAll]
    omega, fun x y => by
    simp only [PyData.eqv, PyData.eqvAll, Bool.and_eq_true, Dq.eq, and_true]
    exact ⟨fun h => Prod.ext h.1 h.2, fun h => by rw [h]; exact ⟨rfl, rfl⟩⟩⟩
instance (priority := 500) [Dq α] [Dq β] [Dq γ] : Dq (T3 α β γ) := ⟨fun x => .tuple [Dq.dat x.a, Dq.dat x.b, Dq.dat x.c], fun x => Dq.ok x.a ∧ Dq.ok x.b ∧ Dq.ok x.c, fun e ⟨p, a, b, c, h1, h2, h3, h4, h5⟩ => by rw [h1]; exact .tup (seqT e h2) (.cons (Dq.dp e h3) (.cons (Dq.dp e h4) (.cons (Dq.dp e h5) .nil))),
  fun x h => by simp [PyData.canLay0, PyData.canLayAll0, Dq.lay _ h.1, Dq.lay _ h.2.1, Dq.lay _ h.2.2], max (Dq.dep α) (max (Dq.dep β) (Dq.dep γ)) + 1, fun x => by
    have h1 := Dq.dle x.a
    have h2 := Dq.dle x.b
    have h3 := Dq.dle x.c
    simp only [PyData.depth, PyData.depthAll]
    omega, fun x y => by
    simp only [PyData.eqv, PyData.eqvAll, Bool.and_eq_true, Dq.eq, and_true]
    cases x; cases y
    simp⟩
end
end GL
namespace GL
open PySem PySem.Spec PyProof.Rows L2
section
variable {K : Fg} {B S0 S1 S S' : Hp} {σ : L2.St} {H H' : Hp} {F : Nat → List Addr} {G G' G1 G2 G3 : List Sl} {ta tb tc te : TE} {i j : Nat} {t u : TS} {E : Ends}
section
variable {tt uu : TT} {b c : Bool} {ω : Type} [Own ω] {z z' : ω}
end
end
end GL
namespace GL
open PySem PySem.Spec PyProof.Rows L2
class PyF (α : Type) [Py α] where
  repF : Fg → Hp → Hp → V → α → Prop
  un : ∀ {K : Fg} {D S : Hp} {v : V} {x : α}, repF K D S v x → Py.rep K S v x
  mono : ∀ {K : Fg} {D S S' : Hp} {v : V} {x : α}, Same S S' → repF K D S v x → repF K D S' v x
  anti : ∀ {K : Fg} {D D' S : Hp} {v : V} {x : α}, Same D' D → repF K D S v x → repF K D' S v x
class PyT (α : Type) [Py α] [PyF α] : Prop where
  of : ∀ {K : Fg} {D S : Hp} {v : V} {x : α}, Py.rep K S v x → PyF.repF K D S v x
structure Fx (α : Type) where
  D : Hp
  x : α
@[reducible] def trivF (α : Type) [Py α] : PyF α := ⟨fun K _ S v x => Py.rep K S v x, fun h => h, fun e h => Py.mono e h, fun _ h => h⟩
instance : PyF Int := trivF Int
instance : PyF Bool := trivF Bool
instance : PyF Str := trivF Str
instance : PyF Unit := trivF Unit
instance {α : Type} [Py α] : PyF (Tp α) := trivF (Tp α)
instance : PyF (Option Int) := trivF (Option Int)
instance : PyT Int := ⟨fun h => h⟩
instance : PyT Bool := ⟨fun h => h⟩
instance : PyT Str := ⟨fun h => h⟩
instance : PyT Unit := ⟨fun h => h⟩
instance {α : Type} [Py α] : PyT (Tp α) := ⟨fun h => h⟩
instance : PyT (Option Int) := ⟨fun h => h⟩
section
variable {α β γ : Type} [Py α] [Py β] [Py γ]
instance : PyF (List α) := ⟨fun K D S v x => Py.rep K S v x ∧ ∃ p, v = .ref p ∧ D p = none, fun h => h.1, fun e h => ⟨Py.mono e h.1, h.2⟩, fun e ⟨h, p, h1, h2⟩ => ⟨h, p, h1, e.free h2⟩⟩
instance [PyF α] [PyF β] : PyF (α × β) := ⟨fun K D S v x => ∃ p a b, v = .ref p ∧ SqT K S p [a, b] ∧ PyF.repF K D S a x.1 ∧ PyF.repF K D S b x.2,
  fun ⟨p, a, b, h1, h2, h3, h4⟩ => ⟨p, a, b, h1, h2, PyF.un h3, PyF.un h4⟩, fun e ⟨p, a, b, h1, h2, h3, h4⟩ => ⟨p, a, b, h1, seqT e h2, PyF.mono e h3, PyF.mono e h4⟩, fun e ⟨p, a, b, h1, h2, h3, h4⟩ => ⟨p, a, b, h1, h2, PyF.anti e h3, PyF.anti e h4⟩⟩
instance [PyF α] [PyF β] [PyF γ] : PyF (T3 α β γ) := ⟨fun K D S v x => ∃ p a b c, v = .ref p ∧ SqT K S p [a, b, c] ∧ PyF.repF K D S a x.a ∧ PyF.repF K D S b x.b ∧ PyF.repF K D S c x.c,
  fun ⟨p, a, b, c, h1, h2, h3, h4, h5⟩ => ⟨p, a, b, c, h1, h2, PyF.un h3, PyF.un h4, PyF.un h5⟩, fun e ⟨p, a, b, c, h1, h2, h3, h4, h5⟩ => ⟨p, a, b, c, h1, seqT e h2, PyF.mono e h3, PyF.mono e h4, PyF.mono e h5⟩,
  fun e ⟨p, a, b, c, h1, h2, h3, h4, h5⟩ => ⟨p, a, b, c, h1, h2, PyF.anti e h3, PyF.anti e h4, PyF.anti e h5⟩⟩
instance [PyF α] [PyF β] : PyF (Sum α β) := ⟨fun K D S v x => match x with | .inl y => PyF.repF K D S v y | .inr y => PyF.repF K D S v y,
  fun {K D S v x} h => by cases x with | inl y => exact PyF.un (α := α) h | inr y => exact PyF.un (α := β) h, fun {K D S S' v x} e h => by cases x with | inl y => exact PyF.mono (α := α) e h | inr y => exact PyF.mono (α := β) e h,
  fun {K D D' S v x} e h => by cases x with | inl y => exact PyF.anti (α := α) e h | inr y => exact PyF.anti (α := β) e h⟩
instance [PyF α] : Py (Fx α) := ⟨fun K S v y => PyF.repF K y.D S v y.x, fun e h => PyF.mono e h⟩
end
section
variable {K : Fg} {B S0 S1 S S' D : Hp} {σ : L2.St} {H H' : Hp} {F : Nat → List Addr} {G G' G1 G2 G3 : List Sl} {ta tb tc te : TE} {i j : Nat} {t u : TS} {E : Ends}
section
variable {α β γ : Type} [Py α] [Py β] [Py γ] [PyF α] [PyF β] [PyF γ] {x : α} {y : β} {z : γ}
end
def spN {α β : Type} [PyA α] [Py β] [PyF β] (K : Fg) (f : α → β) (pre : α → Prop) : Sp := fun vs H Q _ => ∃ (S : Hp) (a : α), Same S H ∧ PyA.rep K S vs a ∧ pre a ∧ ∀ v S' H', Grow S H S' H' → PyF.repF K H S' v (f a) → Q v H'
section
variable {α β : Type} [PyA α] [Py β] [PyF β] {f : α → β} {pre : α → Prop} {a : α} {t : TA} {E : XK} {g : TG} {D : Ends}
end
section
variable {P : Program} {w : World} {mg : Str → Option Value} {base : Heap} {α β : Type} [Sls α] [Py β] [PyF β]
end
structure At1 (α : Type) where
  S : Hp
  x : α
instance {α : Type} [Py α] : Py (At1 α) := ⟨fun K S v y => Py.rep K y.S v y.x ∧ Same y.S S, fun e h => ⟨h.1, h.2.trans e⟩⟩
theorem EvX.th {α : Type} [Py α] {w : At1 α} (h : EvX K te G w G1) : EvX K te G w.x G1 := fun B S0 S σ H F k Q q => h B S0 S σ H F k Q fun v S' H' e k' r => q v S' H' e k' (Py.mono r.2 r.1)
def frz (S : Hp) : Sl → Sl
  | .no => .no
  | @Sl.im _ i x => @Sl.im _ (@instPyAt1 _ i) (At1.mk S x)
  | @Sl.ow _ i x => @Sl.ow _ i x
theorem Kn.frz (k : Kn K B S0 S σ H F G) : Kn K B S S σ H F (G.map (GL.frz S)) := by
  have k1 := k.reb
  refine ⟨k1.s0, k1.sub, k1.keep, k1.clean, k1.off, k1.dj, by rw [List.length_map]; exact k1.len, fun i s e => ?_⟩
  rw [List.getElem?_map] at e
  cases q : G[i]? with
  | none => rw [q] at e; cases e
  | some s0 =>
    rw [q] at e
    cases e
    have z := k1.sl i s0 q
    cases s0 with
    | no => exact True.intro
    | im x =>
      obtain ⟨v, h1, h2⟩ := z
      exact ⟨v, h1, h2, Same.refl _⟩
    | ow x => exact z
class OwnI (ω : Type) [Own ω] : Prop where
  go : ∀ {K : Fg} {S S' H : Hp} {v : V} {ps : List Addr} {x : ω}, Own.own K S H v ps x → Own.own K S' H v ps x
instance : OwnI Spr := ⟨fun h => h⟩
instance : OwnI (List Int) := ⟨fun {K S S' H v ps x} ⟨p, vs, h1, h2, h3, h4⟩ => ⟨p, vs, h1, h2, h3, by rw [h4.ints]; exact RepL.of_ints x⟩⟩
inductive Thw (S : Hp) : List Sl → List Sl → Prop
  | n : Thw S [] []
  | k {α : Type} [Py α] {x : α} {G G' : List Sl} : Thw S G G' → Thw S (.im (At1.mk S x) :: G) (.im (At1.mk S x) :: G')
  | o {α : Type} [Own α] [OwnI α] {x : α} {G G' : List Sl} : Thw S G G' → Thw S (.ow x :: G) (.ow x :: G')
  | d {s : Sl} {G G' : List Sl} : Thw S G G' → Thw S (.no :: G) (s :: G')
theorem Thw.len {G G' : List Sl} (h : Thw S G G') : G.length = G'.length := by
  induction h with
  | n => rfl
  | k _ ih => rw [List.length_cons, List.length_cons, ih]
  | o _ ih => rw [List.length_cons, List.length_cons, ih]
  | d _ ih => rw [List.length_cons, List.length_cons, ih]
theorem Thw.ok {S2 : Hp} {G G' : List Sl} (t : Thw S G G') : ∀ (f : Nat → Option (Option V)) (F : Nat → List Addr) (H' : Hp), (∀ i p, p ∈ F i → H' p = H p) → (∀ i s, G'[i]? = some s → SlOk K S2 H (f i) (F i) s) → ∀ i s, G[i]? = some s → SlOk K S H' (f i) (F i) s := by
  induction t with
  | n => intro f F H' hH h i s e; simp at e
  | k t ih =>
    intro f F H' hH h i s e
    cases i with
    | zero =>
      simp only [List.getElem?_cons_zero, Option.some.injEq] at e
      subst e
      obtain ⟨v, h1, h2, h3⟩ := h 0 _ rfl
      exact ⟨v, h1, h2, Same.refl _⟩
    | succ i => exact ih (fun i => f (i + 1)) (fun i => F (i + 1)) H' (fun i p hp => hH (i + 1) p hp) (fun i s e => h (i + 1) s (by simpa using e)) i s (by simpa using e)
  | o t ih =>
    intro f F H' hH h i s e
    cases i with
    | zero =>
      simp only [List.getElem?_cons_zero, Option.some.injEq] at e
      subst e
      obtain ⟨v, h1, h2⟩ := h 0 _ rfl
      exact ⟨v, h1, Own.mono (Same.refl _) (fun p hp => hH 0 p hp) (OwnI.go h2)⟩
    | succ i => exact ih (fun i => f (i + 1)) (fun i => F (i + 1)) H' (fun i p hp => hH (i + 1) p hp) (fun i s e => h (i + 1) s (by simpa using e)) i s (by simpa using e)
  | d t ih =>
    intro f F H' hH h i s e
    cases i with
    | zero =>
      simp only [List.getElem?_cons_zero, Option.some.injEq] at e
      subst e
      exact True.intro
    | succ i => exact ih (fun i => f (i + 1)) (fun i => F (i + 1)) H' (fun i p hp => hH (i + 1) p hp) (fun i s e => h (i + 1) s (by simpa using e)) i s (by simpa using e)
section
variable {α : Type} [Py α] {xs : List α} {D : Ends}
end
section
variable {α τ : Type} [Py α] {wi : TI} {g : TG} {tb : TS} {xs : List α}
end
end
end GL
set_option maxHeartbeats 4000000
namespace L2
open PySem PySem.Spec PyProof.Rows
def Two (h : Heap) (v : Value) (m n : Int) : Prop := ∃ (t : Addr) (o : Obj) (c : Nat) (u1 u2 : Tok), v = .ref t ∧ h.get? t = some o ∧ o.cls = .type "tuple" ∧ o.data = .seq #[Value.int m u1, Value.int n u2] c
section
variable {prog : Program} {w : World} {A : Around} {E : Value → Shared → Prop} {s : Shared}
theorem two_key {h : Heap} {v : Value} {m n : Int} (x : Two h v m n) : G.tupKeyC h (fun _ => false) v = some [Sum.inl m, Sum.inl n] := by
  obtain ⟨t, o, c, u1, u2, e, ho, hc, hd⟩ := x
  rw [e]
  exact G.tupKeyC_of ho hc hd rfl
theorem key_le {m n m' n' : Int} (g : lexLt itemOrd [Sum.inl m', Sum.inl n'] [Sum.inl m, Sum.inl n] = false) : le2 (m, n) (m', n') := by
  rw [lex_false] at g
  have a1 := of_decide_eq_false (show decide (m' < m) = false from g.1)
  rcases g.2 with g2 | g2
  · exact .inl (of_decide_eq_true (show decide (m < m') = true from g2))
  · rw [lex_false] at g2
    have a2 := of_decide_eq_false (show decide (n' < n) = false from g2.1)
    show m < m' ∨ (m = m' ∧ n ≤ n')
    omega
theorem sort_two {a : Addr} {vs : List Value} {n : Nat} {Q : Value → Shared → Prop} (ho : s.heap.get? a = some (seqObj "list" vs.toArray n)) (hv : ∀ v ∈ vs, ∃ m k, Two s.heap v m k) (hz : vs.length ≤ sizeLine)
    (h : ∀ out : Array Value, out.toList.Perm vs → out.toList.Pairwise (fun u v => ∀ m n m' n', Two s.heap u m n → Two s.heap v m' n' → le2 (m, n) (m', n')) → Q .none { s with heap := sortedHeap s.heap a vs out }) :
    wpAny (model prog w) A (call (.builtin "list.sort") [.ref a]) Q E s := by
  obtain ⟨fs, hfs⟩ := tupsOf_all (h := s.heap) (vs := vs) fun v q => by
    obtain ⟨m, k, t, o, c, u1, u2, e, h1, h2, h3⟩ := hv v q
    exact ⟨.int m u1, t, o, _, c, e, h1, h2, h3, rfl, fun _ => ⟨m, u1, rfl⟩, fun z => absurd z Bool.false_ne_true⟩
  have hk : ∀ v, v ∈ vs → ∃ l, G.tupKeyC s.heap (fun _ => false) v = some l := fun v q => by
    obtain ⟨m, k, x⟩ := hv v q
    exact ⟨_, two_key x⟩
  refine wpAny_call_entry slot_list_sort ⟨_, ho, rfl⟩ entry_list_sort (G.list_sort_tups (shape := fun _ => false) ho hfs hk hz fun st pm so _ => ⟨_, rfl, ?_⟩) (args_list_sort _)
  have p2 : (arrOf st).toList.Perm (vs.map fun v => (v, v)) := by
    have q := Array.perm_iff_toList_perm.mp pm
    rw [pairsOf_toList] at q
    exact q.trans (List.Perm.of_eq (by rw [List.zip_eq_zipWith, List.zipWith_self]))
  have mm : ∀ p ∈ (arrOf st).toList, p.1 = p.2 ∧ p.2 ∈ vs := fun p hp => by
    obtain ⟨v, q, rfl⟩ := List.mem_map.mp (p2.mem_iff.mp hp)
    exact ⟨rfl, q⟩
  have sz : (arrOf st).size = (pairsOf vs).size := by
    rw [← Array.length_toList, ← Array.length_toList]
    exact (Array.perm_iff_toList_perm.mp pm).length_eq
  have pw := keyLe_of_sorted (κ := G.tupKindC s.heap (fun _ => false)) (xs := arrOf st) (fun p hp => by
    obtain ⟨e, q⟩ := mm p hp
    rw [e]
    exact hk _ q) (by rw [sz]; exact so)
  refine h _ ?_ ?_
  · rw [Array.toList_map]
    refine (p2.map (·.2)).trans (List.Perm.of_eq ?_)
    rw [List.map_map]
    exact (List.map_congr_left fun v _ => rfl).trans (List.map_id vs)
  · rw [Array.toList_map, List.pairwise_map]
    refine List.Pairwise.imp_of_mem (fun {p p'} q q' hle m n m' n' x x' => ?_) pw
    obtain ⟨k1, k2, z1, z2, hk⟩ := hle
    rw [(mm p q).1] at z1
    rw [(mm p' q').1] at z2
    have f1 := Option.some.inj (z1.symm.trans (two_key x))
    have f2 := Option.some.inj (z2.symm.trans (two_key x'))
    rw [f1, f2] at hk
    exact key_le hk
end
section
variable {P : Program} {w : World} {A : Around} {E : Value → Shared → Prop} {s : Shared}
theorem Two.keep {h h' : Heap} {v : Value} {m n : Int} (k : ∀ b o, h.get? b = some o → h'.get? b = some o) (x : Two h v m n) : Two h' v m n := by
  obtain ⟨t, o, c, u1, u2, e, h1, h2⟩ := x
  exact ⟨t, o, c, u1, u2, e, k t o h1, h2⟩
end
section
variable {X : Cx}
def tSortSet2 (K : PySem.W.Frag) (ta : TE) : TE := fun σ H Q => ta σ H fun x H1 => ∃ (l : Addr) (xs : List V), x = V.ref l ∧ SqL K H1 l xs ∧ xs.length < 64 ∧ (∀ x ∈ xs, ∃ m n : Int, TupI K H1 x [m, n]) ∧
  ∀ (ys : List V) (p : Addr), (∀ y ∈ ys, y ∈ xs) → (∀ x ∈ xs, ∀ m n, TupI K H1 x [m, n] → ∃ y ∈ ys, ∀ m' n', TupI K H1 y [m', n'] → (m', n') = (m, n)) → ys.Pairwise (fun x y => ∀ m n m' n', TupI K H1 x [m, n] → TupI K H1 y [m', n'] → le2 (m, n) (m', n') ∧ (m, n) ≠ (m', n')) → ys.length < 64 → H1 p = none → Q (.ref p) (upd H1 p (.lst ys))
end
end L2
namespace GL
open PySem PySem.Spec PyProof.Rows L2
section
variable {K : Fg} {B S0 S1 S S' : Hp} {σ : L2.St} {H H' : Hp} {F : Nat → List Addr} {G G' G1 G2 G3 : List Sl} {ta tb tc te : TE} {i j : Nat} {u : TS} {E : Ends}
def lt2 (a b : Int × Int) : Prop := a.1 < b.1 ∨ (a.1 = b.1 ∧ a.2 < b.2)
@[irreducible] def usrt2 (xs : List (Int × Int)) : List (Int × Int) := srt2 xs.eraseDups
theorem RepL.pick {α : Type} [Py α] {vs : List V} {xs : List α} (h : RepL K S vs xs) : ∀ {ws : List V}, (∀ w ∈ ws, w ∈ vs) → ∃ ys : List α, RepL K S ws ys ∧ ∀ y ∈ ys, y ∈ xs
  | [], _ => ⟨[], True.intro, fun y z => nomatch z⟩
  | w :: ws, hw => by
    obtain ⟨i, hi⟩ := List.getElem?_of_mem (hw w List.mem_cons_self)
    obtain ⟨x, h1, h2⟩ := h.got hi
    obtain ⟨ys, h3, h4⟩ := RepL.pick h (ws := ws) fun z hz => hw z (List.mem_cons_of_mem _ hz)
    exact ⟨x :: ys, ⟨h2, h3⟩, fun y hy => (List.mem_cons.mp hy).elim (fun e => e ▸ List.mem_of_getElem? h1) (h4 y)⟩
end
end GL
namespace GL
open PySem PySem.Spec PyProof.Rows L2
section
variable {K : Fg} {B S0 S1 S S' D : Hp} {σ : L2.St} {H H' : Hp} {F : Nat → List Addr} {G G' G1 G2 G3 : List Sl} {ta tb tc te : TE} {i j : Nat} {t u : TS} {E : Ends}
section
variable {α β γ δ : Type} [Py α] [Py β] [Py γ] [Py δ] [PyF α] [PyF β] [PyF γ] [PyF δ] {g1 g2 g3 : TG} {t1 t2 t3 : List Nat}
end
section
variable {α β ω : Type} [Py α] [Py β] [Py ω] {D : Ends}
end
def EvOS (K : Fg) (t : TO) (G : List Sl) (o : Option Int) (G' : List Sl) : Prop := ∀ B S0 S σ H F, Kn K B S0 S σ H F G → ∀ Q : Option Int → Hp → Prop, (∀ S' H', Same S S' → Kn K B S0 S' σ H' F G' → Q o H') → t σ H Q
end
end GL
namespace GL
open PySem PySem.Spec PyProof.Rows L2
structure Pen where
  a : Addr
  q : Addr
  l : List Int
  p : Nat
  w : Int
instance : Own Pen := ⟨fun K S H v ps x => v = .ref x.a ∧ ps = [x.a, x.q] ∧ H x.a = some (.lst [.ref x.q, .int x.p, .int x.w]) ∧ H x.q = some (.lst (x.l.map V.int)), fun {K S S' H H' v ps x} e a ⟨h1, h2, h3, h4⟩ =>
  ⟨h1, h2, by rw [a x.a (by rw [h2]; simp)]; exact h3, by rw [a x.q (by rw [h2]; simp)]; exact h4⟩⟩
instance : Anch Pen := ⟨fun x => (.ref x.a, [x.a, x.q]), fun ⟨h1, h2, _⟩ => by rw [h1, h2]⟩
instance : OwnI Pen := ⟨fun h => h⟩
section
variable {K : Fg} {B S0 S1 S S' D : Hp} {σ : L2.St} {H H' : Hp} {F : Nat → List Addr} {G G' G1 G2 G3 : List Sl} {ta tb tc te : TE} {i j : Nat} {t u : TS} {E : Ends}
theorem Kn.setOwns {α : Type} [Own α] {x : α} {v : V} {i : Nat} {ps : List Addr} (k : Kn K B S0 S σ H F G) (r : Own.own K S H v ps x) (hi : G[i]?.isSome = true) (hp : ∀ p ∈ ps, S p = none ∧ B p = none ∧ (∃ o, H p = some o) ∧ ∀ j, p ∉ F j) :
    Kn K B S0 S (σ.set i (some v)) H (upF F i ps) (G.set i (.ow x)) := by
  have hl := isSome_lt hi
  refine ⟨k.s0, k.sub, k.keep, k.clean, fun j q hq => ?_, fun a b q ha hb' => ?_, by rw [List.length_set, List.length_set]; exact k.len, fun j s e => ?_⟩
  · by_cases e : j = i
    · subst e
      rw [upF_self] at hq
      exact ⟨(hp q hq).1, (hp q hq).2.1, (hp q hq).2.2.1⟩
    · rw [upF_ne e] at hq
      exact k.off j q hq
  · by_cases ea : a = i
    · by_cases eb : b = i
      · rw [ea, eb]
      · rw [ea, upF_self] at ha
        rw [upF_ne eb] at hb'
        exact absurd hb' ((hp q ha).2.2.2 b)
    · rw [upF_ne ea] at ha
      by_cases eb : b = i
      · rw [eb, upF_self] at hb'
        exact absurd ha ((hp q hb').2.2.2 a)
      · rw [upF_ne eb] at hb'
        exact k.dj a b q ha hb'
  · rcases set_get e with ⟨rfl, rfl⟩ | ⟨ne, e⟩
    · rw [upF_self]
      exact ⟨v, List.getElem?_set_self (by rw [← k.len]; exact hl), r⟩
    · rw [List.getElem?_set_ne (fun z => ne z.symm), upF_ne ne]
      exact k.sl j s e
variable {z : Pen}
end
def spPen (K : Fg) : Sp := fun vs H Q _ => ∃ (S : Hp) (a : Scr × Unit), Same S H ∧ PyA.rep K S vs a ∧ a.1.l.length ≤ 63 ∧ ∀ (l : List Int) (p q : Addr) (S' H' : Hp), Grow S H S' H' → l.length ≤ 63 → H p = none → S' p = none → H q = none → S' q = none → H' p = some (.lst [.ref q, .int 0, .int 0]) → H' q = some (.lst (l.map V.int)) → Q (.ref p) H'
section
variable {P : Program} {w : World} {K : Fg} {mg : Str → Option Value} {base : Heap} {B S0 : Hp} {G G1 : List Sl} {t : TA} {E : XK} {u : TS} {D : Ends} {te : TE}
end
def cellM (l : List Int) (p : Nat) : Int := if decide ((p : Int) < (l.length : Int)) = true then ix l (p : Int) else if decide (0 < (l.length : Int)) = true then ix l ((p : Int) * 5 % (l.length : Int)) % 1000003 + 89 * (p : Int) else 0
def oneM (c : Int) (p : Nat) : Int := (c % 1000000007 + 61 * (p : Int) + 1) * 16807 % 2147483647
def twoM (c : Int) (p : Nat) : Int := (oneM c p * oneM c p + 48271 * (p : Int) + 3) % 998244353
def drawM (c : Int) (p : Nat) : Int := if decide ((10 : Int) ^ (18 : Int).toNat ≤ c) = true then c / (10 : Int) ^ (18 : Int).toNat else (twoM c p * 1000000007 + (twoM c p * twoM c p + oneM c p) % 1000000007) / 32 + 1
def fillM (z : Pen) : Pen := if decide (z.w = 0) = true then ⟨z.a, z.q, z.l, z.p + 1, drawM (cellM z.l z.p) z.p⟩ else z
@[irreducible] def penTake (z : Pen) (m : Int) : Int × Pen := ((fillM z).w % m, ⟨(fillM z).a, (fillM z).q, (fillM z).l, (fillM z).p, (fillM z).w / m⟩)
end GL
namespace GL
open PySem PySem.Spec PyProof.Rows L2
abbrev spRP {α β : Type} [PyA α] [Py β] (K : Fg) (R : α → β → Prop) (pre : α → Prop) : Sp := spR (ω := Pen) K Pen R pre
section
variable {K : Fg} {B S0 : Hp} {G G1 : List Sl} {u : TS} {D : Ends} {α β : Type} [PyA α] [Py β] {R : α → β → Prop} {pre : α → Prop} {z z1 : Pen} {a : α} {t : TA} {E : XK} {g : TG}
end
section
variable {P : Program} {w : World} {K : Fg} {mg : Str → Option Value} {base : Heap} {α β : Type} [Sls α] [Py β]
end
end GL
namespace GL
end GL
set_option maxHeartbeats 4000000
namespace L2
open PySem PySem.Spec PyProof.Rows GL
def rGe2 (K : PySem.W.Frag) : R2 := fun x y H Q => ∃ m n m' n' : Int, TupI K H x [m, n] ∧ TupI K H y [m', n'] ∧ Q (.bl (le2b (m', n') (m, n))) H
end L2
namespace GL
open PySem PySem.Spec PyProof.Rows L2
section
variable {K : Fg} {G G1 G2 : List Sl} {ta tb : TE}
def lastI {α : Type} [Inhabited α] (xs : List α) : α := ix xs ((xs.length : Int) - 1)
end
end GL
set_option maxHeartbeats 4000000
namespace GL
open PySem PySem.Spec PyProof.Rows L2
section
variable {K : Fg} {B S0 : Hp} {G G1 G2 : List Sl} {ta tb tc te : TE} {i j : Nat} {u : TS} {E : Ends}
end
end GL
set_option maxHeartbeats 4000000
namespace GL
open PySem PySem.Spec PyProof.Rows L2
section
variable {K : Fg} {G : List Sl} {i j : Nat}
def pickX {τ α β : Type} (f : τ → α → Bool) (e : α → β) (step : τ → α → τ) (xs : List α) (s0 : τ) : List β × τ := xs.foldl (fun (a : List β × τ) x => (if f a.2 x = true then a.1 ++ [e x] else a.1, step a.2 x)) ([], s0)
end
section
variable {K : Fg} {B S0 : Hp} {G G1 G2 G3 : List Sl} {ta tb tc : TE} {u : TS} {E : Ends}
end
end GL
namespace GL
open PySem PySem.Spec PyProof.Rows L2
inductive Dat
  | non
  | int (i : Int)
  | bl (b : Bool)
  | str (s : Str)
  | tup (l : List Dat)
  | lst (l : List Dat)
mutual
inductive DRep (K : Fg) (S : Hp) : V → Dat → Prop
  | non : DRep K S .non .non
  | int (i : Int) : DRep K S (.int i) (.int i)
  | bl (b : Bool) : DRep K S (.bl b) (.bl b)
  | str (s : Str) : DRep K S (.str s) (.str s)
  | tup {p : Addr} {vs : List V} {l : List Dat} : SqT K S p vs → DRepL K S vs l → DRep K S (.ref p) (.tup l)
  | lst {p : Addr} {vs : List V} {l : List Dat} : S p = some (.lst vs) → DRepL K S vs l → DRep K S (.ref p) (.lst l)
inductive DRepL (K : Fg) (S : Hp) : List V → List Dat → Prop
  | nil : DRepL K S [] []
  | cons {v : V} {d : Dat} {vs : List V} {l : List Dat} : DRep K S v d → DRepL K S vs l → DRepL K S (v :: vs) (d :: l)
end
mutual
theorem DRep.mono {K : Fg} {S S' : Hp} (e : Same S S') : ∀ {v : V} {d : Dat}, DRep K S v d → DRep K S' v d
  | _, _, .non => .non
  | _, _, .int i => .int i
  | _, _, .bl i => .bl i
  | _, _, .str i => .str i
  | _, _, .tup h r => .tup (seqT e h) (DRepL.mono e r)
  | _, _, .lst h r => .lst (e _ _ h) (DRepL.mono e r)
theorem DRepL.mono {K : Fg} {S S' : Hp} (e : Same S S') : ∀ {vs : List V} {l : List Dat}, DRepL K S vs l → DRepL K S' vs l
  | _, _, .nil => .nil
  | _, _, .cons h r => .cons (DRep.mono e h) (DRepL.mono e r)
end
instance : Py Dat := ⟨fun K S v d => DRep K S v d, fun e h => h.mono e⟩
theorem DRepL.rep {K : Fg} {S : Hp} : ∀ {vs : List V} {l : List Dat}, DRepL K S vs l → RepL K S vs l
  | _, _, .nil => True.intro
  | _, _, .cons h r => ⟨h, DRepL.rep r⟩
inductive DLe : Nat → Dat → Prop
  | non {k : Nat} : DLe k .non
  | int {k : Nat} {i : Int} : DLe k (.int i)
  | bl {k : Nat} {i : Bool} : DLe k (.bl i)
  | str {k : Nat} {i : Str} : DLe k (.str i)
  | tup {k : Nat} {l : List Dat} : l.length ≤ 1000000 → (∀ x ∈ l, DLe k x) → DLe (k + 1) (.tup l)
  | lst {k : Nat} {l : List Dat} : l.length ≤ 1000000 → (∀ x ∈ l, DLe k x) → DLe (k + 1) (.lst l)
class ToD (α : Type) [Py α] where
  dat : α → Dat
  of : ∀ {K : Fg} {S : Hp} {v : V} {x : α}, Py.rep K S v x → DRep K S v (dat x)
instance : ToD Int := ⟨.int, fun h => by rw [show _ = V.int _ from h]; exact .int _⟩
instance : ToD Bool := ⟨.bl, fun h => by rw [show _ = V.bl _ from h]; exact .bl _⟩
instance : ToD Str := ⟨.str, fun h => by rw [show _ = V.str _ from h]; exact .str _⟩
instance : ToD Unit := ⟨fun _ => .non, fun h => by rw [show _ = V.non from h]; exact .non⟩
instance : ToD Dat := ⟨fun d => d, fun h => h⟩
section
variable {α β γ : Type} [Py α] [Py β] [Py γ] [ToD α] [ToD β] [ToD γ]
theorem RepL.toD {K : Fg} {S : Hp} : ∀ {vs : List V} {l : List α}, RepL K S vs l → DRepL K S vs (l.map ToD.dat)
  | [], [], _ => .nil
  | _ :: _, _ :: _, h => .cons (ToD.of h.1) (RepL.toD h.2)
  | [], _ :: _, h => h.elim
  | _ :: _, [], h => h.elim
instance : ToD (List α) := ⟨fun l => .lst (l.map ToD.dat), fun ⟨p, vs, h1, h2, h3⟩ => by rw [h1]; exact .lst h2 h3.toD⟩
instance : ToD (Tp α) := ⟨fun l => .tup (l.l.map ToD.dat), fun ⟨p, vs, h1, h2, h3⟩ => by rw [h1]; exact .tup h2 h3.toD⟩
instance : ToD (α × β) := ⟨fun x => .tup [ToD.dat x.1, ToD.dat x.2], fun ⟨p, a, b, h1, h2, h3, h4⟩ => by rw [h1]; exact .tup h2 (.cons (ToD.of h3) (.cons (ToD.of h4) .nil))⟩
instance : ToD (T3 α β γ) := ⟨fun x => .tup [ToD.dat x.a, ToD.dat x.b, ToD.dat x.c], fun ⟨p, a, b, c, h1, h2, h3, h4, h5⟩ => by rw [h1]; exact .tup h2 (.cons (ToD.of h3) (.cons (ToD.of h4) (.cons (ToD.of h5) .nil)))⟩
instance : ToD (Option α) := ⟨fun x => match x with | none => .non | some y => ToD.dat y, fun {K S v x} h => by
  cases x with
  | none => rw [show _ = V.non from h]; exact .non
  | some y => exact ToD.of (x := y) h⟩
end
structure H2 (α β : Type) where
  a : α
  b : β
  deriving DecidableEq
section
variable {α β γ : Type} [Py α] [Py β] [Py γ]
instance : Py (H2 α β) := ⟨fun K S v x => ∃ p a b, v = .ref p ∧ S p = some (.lst [a, b]) ∧ Py.rep K S a x.a ∧ Py.rep K S b x.b, fun e ⟨p, a, b, h1, h2, h3, h4⟩ => ⟨p, a, b, h1, e _ _ h2, Py.mono e h3, Py.mono e h4⟩⟩
instance [Dt α] [Dt β] : Dt (H2 α β) := ⟨fun x => .list [Dt.dat x.a, Dt.dat x.b], fun e ⟨p, a, b, h1, h2, h3, h4⟩ => by rw [h1]; exact .lst (SqL.of (e _ _ h2)) (.cons (Dt.dp e h3) (.cons (Dt.dp e h4) .nil)),
  fun x => by simp [PyData.canLay0, PyData.canLayAll0, Dt.lay], max (Dt.dep α) (Dt.dep β) + 1, fun x => by
    have h1 := Dt.dle x.a
    have h2 := Dt.dle x.b
    simp only [PyData.depth, PyData.depthAll]
    omega, fun x y => by
    simp only [PyData.eqv, PyData.eqvAll, Bool.and_eq_true, Dt.eq, and_true]
    cases x; cases y
    simp⟩
end
section
variable {K : Fg} {B S0 S1 S S' D : Hp} {σ : L2.St} {H H' : Hp} {F : Nat → List Addr} {G G' G1 G2 G3 : List Sl} {ta tb tc te : TE} {i j : Nat} {t u : TS} {E : Ends}
def Dat.tyn : Dat → String
  | .non => "NoneType"
  | .int _ => "int"
  | .bl _ => "bool"
  | .str _ => "str"
  | .tup _ => "tuple"
  | .lst _ => "list"
theorem DRep.ty {v : V} {d : Dat} (e : Same S H) (h : DRep K S v d) : TyX K H v (.type d.tyn) := by
  cases h with
  | non => exact .base .non
  | int i => exact .base (.int i)
  | bl i => exact .base (.bl i)
  | str i => exact .base (.str i)
  | tup a _ => exact tyT e a
  | lst a _ => exact .base (.lst (e _ _ a))
theorem EvX.dat {α : Type} [Py α] [ToD α] {x : α} (h : EvX K te G x G1) : EvX K te G (ToD.dat x) G1 := fun B S0 S σ H F k Q q => h B S0 S σ H F k Q fun v S' H' e k' r => q v S' H' e k' (ToD.of r)
def Dat.isN : Dat → Bool
  | .non => true
  | _ => false
end
abbrev spSame (K : Fg) (k : Nat) : Sp := spF K (fun (_ : Dat × Dat × Unit) => true) (fun a => a.1 = a.2.1 ∧ DLe k a.1)
end GL
namespace GL
open PySem PySem.Spec PyProof.Rows L2
def del (S : Hp) (p : Addr) : Hp := fun q => if q = p then none else S q
theorem del_ne {S : Hp} {p q : Addr} (h : q ≠ p) : del S p q = S q := if_neg h
class NoD (α : Type) [Py α] : Prop where
  go : ∀ {K : Fg} {S : Hp} {p : Addr} {kvs : List (Key × V)} {v : V} {x : α}, S p = some (.dK kvs) → Py.rep K S v x → Py.rep K (del S p) v x
theorem noT {K : Fg} {S : Hp} {p a : Addr} {kvs : List (Key × V)} {vs : List V} (h : S p = some (.dK kvs)) (r : SqT K S a vs) : SqT K (del S p) a vs := by
  rcases r with (r | ⟨o, r⟩) | r
  · exact .inl (.inl (by rw [del_ne (fun e => by rw [e, h] at r; cases r)]; exact r))
  · exact .inl (.inr ⟨o, by rw [del_ne (fun e => by rw [e, h] at r; cases r)]; exact r⟩)
  · exact .inr r
section
variable {α β γ : Type} [Py α] [Py β] [Py γ]
theorem noL [NoD α] {K : Fg} {S : Hp} {p : Addr} {kvs : List (Key × V)} (h : S p = some (.dK kvs)) : ∀ {vs : List V} {xs : List α}, RepL K S vs xs → RepL K (del S p) vs xs
  | [], [], _ => True.intro
  | _ :: _, _ :: _, r => ⟨NoD.go h r.1, noL h r.2⟩
  | [], _ :: _, r => r.elim
  | _ :: _, [], r => r.elim
instance : NoD Int := ⟨fun _ h => h⟩
instance : NoD Bool := ⟨fun _ h => h⟩
instance : NoD Str := ⟨fun _ h => h⟩
instance : NoD Unit := ⟨fun _ h => h⟩
instance [NoD α] : NoD (List α) := ⟨fun h ⟨a, vs, h1, h2, h3⟩ => ⟨a, vs, h1, by rw [del_ne (fun e => by rw [e, h] at h2; cases h2)]; exact h2, noL h h3⟩⟩
instance [NoD α] : NoD (Tp α) := ⟨fun h ⟨a, vs, h1, h2, h3⟩ => ⟨a, vs, h1, noT h h2, noL h h3⟩⟩
instance [NoD α] [NoD β] : NoD (α × β) := ⟨fun h ⟨a, x, y, h1, h2, h3, h4⟩ => ⟨a, x, y, h1, noT h h2, NoD.go h h3, NoD.go h h4⟩⟩
instance [NoD α] [NoD β] [NoD γ] : NoD (T3 α β γ) := ⟨fun h ⟨a, x, y, z, h1, h2, h3, h4, h5⟩ => ⟨a, x, y, z, h1, noT h h2, NoD.go h h3, NoD.go h h4, NoD.go h h5⟩⟩
instance [NoD α] : NoD (Option α) := ⟨fun {K S p kvs v x} h r => by
  cases x with
  | none => exact r
  | some y => exact NoD.go (x := y) h r⟩
end
section
variable {K : Fg} {B S0 S1 S S' D : Hp} {σ : L2.St} {H H' : Hp} {F : Nat → List Addr} {G G' G1 G2 G3 : List Sl} {ta tb tc te : TE} {i j : Nat} {t u : TS} {E : Ends}
def EvV {α : Type} [PyA α] (K : Fg) (ta : TA) (G : List Sl) (x : α) : Prop :=
  ∀ B S0 S σ H F, Kn K B S0 S σ H F G → ∀ Q : List V → Hp → Prop, (∀ vs, PyA.rep K S vs x → Q vs H) → ta σ H Q
end
end GL
namespace L2
open PySem PySem.Spec PyProof.Rows
section
variable {X : Cx}
def tSortSetT (K : PySem.W.Frag) (ta : TE) : TE := fun σ H Q => ta σ H fun x H1 => ∃ (l : Addr) (ns : List Int), x = V.ref l ∧ SqT K H1 l (ns.map V.int) ∧ ns.length < 64 ∧
  ∀ (ms : List Int) (p : Addr), ms.Pairwise (· < ·) → (∀ k : Int, k ∈ ms ↔ k ∈ ns) → H1 p = none → Q (.ref p) (upd H1 p (.lst (ms.map V.int)))
end
end L2
namespace GL
open PySem PySem.Spec PyProof.Rows L2
structure T5 (α β γ δ ε : Type) where
  a : α
  b : β
  c : γ
  d : δ
  e : ε
  deriving DecidableEq
section
variable {α β γ δ ε : Type} [Py α] [Py β] [Py γ] [Py δ] [Py ε]
instance : Py (T5 α β γ δ ε) := ⟨fun K S v x => ∃ p a b c d e, v = .ref p ∧ SqT K S p [a, b, c, d, e] ∧ Py.rep K S a x.a ∧ Py.rep K S b x.b ∧ Py.rep K S c x.c ∧ Py.rep K S d x.d ∧ Py.rep K S e x.e,
  fun z ⟨p, a, b, c, d, e, h1, h2, h3, h4, h5, h6, h7⟩ => ⟨p, a, b, c, d, e, h1, seqT z h2, Py.mono z h3, Py.mono z h4, Py.mono z h5, Py.mono z h6, Py.mono z h7⟩⟩
instance [ToD α] [ToD β] [ToD γ] [ToD δ] [ToD ε] : ToD (T5 α β γ δ ε) := ⟨fun x => .tup [ToD.dat x.a, ToD.dat x.b, ToD.dat x.c, ToD.dat x.d, ToD.dat x.e], fun ⟨p, a, b, c, d, e, h1, h2, h3, h4, h5, h6, h7⟩ => by
  rw [h1]; exact .tup h2 (.cons (ToD.of h3) (.cons (ToD.of h4) (.cons (ToD.of h5) (.cons (ToD.of h6) (.cons (ToD.of h7) .nil)))))⟩
class NoL (α : Type) [Py α] : Prop where
  go : ∀ {K : Fg} {S : Hp} {p : Addr} {us : List V} {v : V} {x : α}, S p = some (.lst us) → Py.rep K S v x → Py.rep K (del S p) v x
end
theorem nlT {K : Fg} {S : Hp} {p a : Addr} {us : List V} {vs : List V} (h : S p = some (.lst us)) (r : SqT K S a vs) : SqT K (del S p) a vs := by
  rcases r with (r | ⟨o, r⟩) | r
  · exact .inl (.inl (by rw [del_ne (fun e => by rw [e, h] at r; cases r)]; exact r))
  · exact .inl (.inr ⟨o, by rw [del_ne (fun e => by rw [e, h] at r; cases r)]; exact r⟩)
  · exact .inr r
section
variable {α β γ δ ε : Type} [Py α] [Py β] [Py γ] [Py δ] [Py ε]
theorem nlAll [NoL α] {K : Fg} {S : Hp} {p : Addr} {us : List V} (h : S p = some (.lst us)) : ∀ {vs : List V} {xs : List α}, RepL K S vs xs → RepL K (del S p) vs xs
  | [], [], _ => True.intro
  | _ :: _, _ :: _, r => ⟨NoL.go h r.1, nlAll h r.2⟩
  | [], _ :: _, r => r.elim
  | _ :: _, [], r => r.elim
instance : NoL Int := ⟨fun _ h => h⟩
instance : NoL Bool := ⟨fun _ h => h⟩
instance : NoL Str := ⟨fun _ h => h⟩
instance : NoL Unit := ⟨fun _ h => h⟩
instance [NoL α] : NoL (Tp α) := ⟨fun h ⟨a, vs, h1, h2, h3⟩ => ⟨a, vs, h1, nlT h h2, nlAll h h3⟩⟩
instance [NoL α] [NoL β] : NoL (α × β) := ⟨fun h ⟨a, x, y, h1, h2, h3, h4⟩ => ⟨a, x, y, h1, nlT h h2, NoL.go h h3, NoL.go h h4⟩⟩
instance [NoL α] [NoL β] [NoL γ] : NoL (T3 α β γ) := ⟨fun h ⟨a, x, y, z, h1, h2, h3, h4, h5⟩ => ⟨a, x, y, z, h1, nlT h h2, NoL.go h h3, NoL.go h h4, NoL.go h h5⟩⟩
instance [NoL α] [NoL β] [NoL γ] [NoL δ] [NoL ε] : NoL (T5 α β γ δ ε) := ⟨fun h ⟨p, a, b, c, d, e, h1, h2, h3, h4, h5, h6, h7⟩ => ⟨p, a, b, c, d, e, h1, nlT h h2, NoL.go h h3, NoL.go h h4, NoL.go h h5, NoL.go h h6, NoL.go h h7⟩⟩
instance [NoL α] : NoL (Option α) := ⟨fun {K S p us v x} h r => by
  cases x with
  | none => exact r
  | some y => exact NoL.go (x := y) h r⟩
end
inductive WRow
  | set (p v : Int)
  | add (p q : Int)
  | jump (p r : Int)
  | say (p : Int)
  | take (p : Int)
  | fin
  deriving DecidableEq
instance : Inhabited WRow := ⟨.fin⟩
def sW (s : String) : Str := Str.ofString s
namespace WRow
def word : WRow → Str
  | .set _ _ => Str.ofString "set"
  | .add _ _ => Str.ofString "add"
  | .jump _ _ => Str.ofString "jump"
  | .say _ => Str.ofString "say"
  | .take _ => Str.ofString "take"
  | .fin => Str.ofString "end"
def nums : WRow → List Int
  | .set p v => [p, v]
  | .add p q => [p, q]
  | .jump p r => [p, r]
  | .say p => [p]
  | .take p => [p]
  | .fin => []
def vals (r : WRow) : List V := .str r.word :: r.nums.map V.int
def a1 (r : WRow) : Int := r.nums.getD 0 0
def a2 (r : WRow) : Int := r.nums.getD 1 0
def dat (r : WRow) : PyData := .tuple (.str r.word :: r.nums.map PyData.int)
end WRow
instance : Py WRow := ⟨fun K S v r => ∃ p, v = .ref p ∧ SqT K S p r.vals, fun e ⟨p, h1, h2⟩ => ⟨p, h1, seqT e h2⟩⟩
instance : NoL WRow := ⟨fun h ⟨p, h1, h2⟩ => ⟨p, h1, nlT h h2⟩⟩
section
variable {K : Fg} {B S0 S1 S S' D : Hp} {σ : L2.St} {H H' : Hp} {F : Nat → List Addr} {G G' G1 G2 G3 G4 G5 : List Sl} {ta tb tc td te : TE} {i j l : Nat} {t u : TS} {E : Ends}
section
variable {α β γ δ ε : Type} [Py α] [Py β] [Py γ] [Py δ] [Py ε]
variable {w : T5 α β γ δ ε}
end
variable {r : WRow}
end
end GL
namespace GL
open PySem PySem.Spec PyProof.Rows L2
structure T4 (α β γ δ : Type) where
  a : α
  b : β
  c : γ
  d : δ
  deriving DecidableEq
section
variable {α β γ δ ε : Type} [Py α] [Py β] [Py γ] [Py δ] [Py ε]
instance : Py (T4 α β γ δ) := ⟨fun K S v x => ∃ p a b c d, v = .ref p ∧ SqT K S p [a, b, c, d] ∧ Py.rep K S a x.a ∧ Py.rep K S b x.b ∧ Py.rep K S c x.c ∧ Py.rep K S d x.d,
  fun z ⟨p, a, b, c, d, h1, h2, h3, h4, h5, h6⟩ => ⟨p, a, b, c, d, h1, seqT z h2, Py.mono z h3, Py.mono z h4, Py.mono z h5, Py.mono z h6⟩⟩
instance (priority := 500) [Dq α] [Dq β] [Dq γ] [Dq δ] : Dq (T4 α β γ δ) := ⟨fun x => .tuple [Dq.dat x.a, Dq.dat x.b, Dq.dat x.c, Dq.dat x.d], fun x => Dq.ok x.a ∧ Dq.ok x.b ∧ Dq.ok x.c ∧ Dq.ok x.d, fun e ⟨p, a, b, c, d, h1, h2, h3, h4, h5, h6⟩ => by rw [h1]; exact .tup (seqT e h2) (.cons (Dq.dp e h3) (.cons (Dq.dp e h4) (.cons (Dq.dp e h5) (.cons (Dq.dp e h6) .nil)))),
  fun x h => by simp [PyData.canLay0, PyData.canLayAll0, Dq.lay _ h.1, Dq.lay _ h.2.1, Dq.lay _ h.2.2.1, Dq.lay _ h.2.2.2], max (Dq.dep α) (max (Dq.dep β) (max (Dq.dep γ) (Dq.dep δ))) + 1, fun x => by
    have h1 := Dq.dle x.a
    have h2 := Dq.dle x.b
    have h3 := Dq.dle x.c
    have h4 := Dq.dle x.d
    simp only [PyData.depth, PyData.depthAll]
    omega, fun x y => by
    simp only [PyData.eqv, PyData.eqvAll, Bool.and_eq_true, Dq.eq, and_true]
    cases x; cases y
    simp⟩
variable {K : Fg} {G G1 G2 G3 G4 : List Sl} {ta tb tc td : TE}
end
section
variable {K : Fg} {G G1 G2 : List Sl} {ta tb : TE}
end
end GL
namespace GL
open PySem PySem.Spec PyProof.Rows L2
namespace Dct
variable {α : Type}
theorem find_map (k : Int) (x : α) (j : Int) : ∀ l : List (Int × α), ((l.map fun kv => if kv.1 = k then (kv.1, x) else kv).find? fun kv => decide (kv.1 = j)).map (·.2) = ((l.find? fun kv => decide (kv.1 = j)).map (·.2)).map fun y => if j = k then x else y
  | [] => rfl
  | p :: l => by
    rw [List.map_cons, List.find?_cons, List.find?_cons]
    by_cases h1 : p.1 = j
    · by_cases h2 : p.1 = k
      · have : j = k := h1.symm.trans h2
        subst this
        simp [h1]
      · have : ¬ j = k := fun e => h2 (h1.trans e)
        simp [h1, this]
    · have ih := find_map k x j l
      by_cases h2 : p.1 = k
      · simp only [h2, if_true]
        have h3 : ¬ k = j := fun e => h1 (h2.trans e)
        simp only [decide_eq_false h3]
        exact ih
      · simp only [h2, if_false, decide_eq_false h1]
        exact ih
theorem any_find (k : Int) : ∀ l : List (Int × α), (l.any fun kv => decide (kv.1 = k)) = ((l.find? fun kv => decide (kv.1 = k)).map (·.2)).isSome
  | [] => rfl
  | p :: l => by
    rw [List.any_cons, List.find?_cons, any_find k l]
    by_cases h : p.1 = k
    · simp [h]
    · simp [h]
theorem find_snoc (k : Int) (x : α) (j : Int) : ∀ l : List (Int × α), ((l ++ [(k, x)]).find? fun kv => decide (kv.1 = j)).map (·.2) = match (l.find? fun kv => decide (kv.1 = j)).map (·.2) with | some y => some y | none => if j = k then some x else none
  | [] => by
    by_cases h : k = j
    · subst h; simp
    · have : ¬ j = k := fun e => h e.symm
      simp [h, this]
  | p :: l => by
    rw [List.cons_append, List.find?_cons, List.find?_cons]
    by_cases h : p.1 = j
    · simp [h]
    · simp only [decide_eq_false h]
      exact find_snoc k x j l
theorem get?_put (d : Dct α) (k : Int) (x : α) (j : Int) : (d.put k x).get? j = if j = k then some x else d.get? j := by
  unfold get? put
  by_cases h : (d.l.any fun kv => decide (kv.1 = k)) = true
  · simp only [h, if_true]
    rw [find_map]
    by_cases e : j = k
    · subst e
      rw [any_find] at h
      cases q : (d.l.find? fun kv => decide (kv.1 = j)).map (·.2) with
      | none => rw [q] at h; cases h
      | some y => simp
    · simp only [e, if_false]
      cases (d.l.find? fun kv => decide (kv.1 = j)).map (·.2) <;> rfl
  · simp only [h, if_false, Bool.false_eq_true]
    rw [find_snoc]
    by_cases e : j = k
    · subst e
      rw [any_find] at h
      cases q : (d.l.find? fun kv => decide (kv.1 = j)).map (·.2) with
      | none => simp
      | some y => rw [q] at h; exact absurd rfl h
    · simp only [e, if_false]
      cases (d.l.find? fun kv => decide (kv.1 = j)).map (·.2) <;> rfl
theorem get?_del (d : Dct α) (k j : Int) : (d.del k).get? j = if j = k then none else d.get? j := by
  unfold get? del
  show ((d.l.filter fun kv => decide (kv.1 ≠ k)).find? fun kv => decide (kv.1 = j)).map (·.2) = _
  induction d.l with
  | nil => simp
  | cons p l ih =>
    rw [List.filter_cons]
    by_cases h : p.1 = k
    · rw [if_neg (by simp [h]), ih, List.find?_cons]
      by_cases e : j = k
      · simp [e]
      · have : ¬ p.1 = j := fun q => e (q.symm.trans h)
        simp [e, this]
    · rw [if_pos (by simp [h]), List.find?_cons, List.find?_cons]
      by_cases e : p.1 = j
      · have : ¬ j = k := fun q => h (e.trans q)
        simp [e, this]
      · simp only [decide_eq_false e]
        exact ih
def Ok (d : Dct α) (m : Int) : Prop := (d.l.map (·.1)).Nodup ∧ ∀ k ∈ d.l.map (·.1), 0 ≤ k ∧ k < m
theorem Ok.emp {m : Int} : Ok (emp : Dct α) m := ⟨List.nodup_nil, fun _ h => by simp [Dct.emp] at h⟩
theorem keys_put (d : Dct α) (k : Int) (x : α) : (d.put k x).l.map (·.1) = if (d.l.any fun kv => decide (kv.1 = k)) = true then d.l.map (·.1) else d.l.map (·.1) ++ [k] := by
  unfold put
  by_cases h : (d.l.any fun kv => decide (kv.1 = k)) = true
  · simp only [h, if_true]
    rw [List.map_map]
    apply List.map_congr_left
    intro p _
    show (if p.1 = k then (p.1, x) else p).1 = p.1
    split <;> rfl
  · simp only [h, if_false, Bool.false_eq_true]
    rw [List.map_append]
    rfl
theorem Ok.put {d : Dct α} {m : Int} (h : d.Ok m) {k : Int} (x : α) (hk : 0 ≤ k ∧ k < m) : (d.put k x).Ok m := by
  unfold Ok
  rw [keys_put]
  by_cases q : (d.l.any fun kv => decide (kv.1 = k)) = true
  · rw [if_pos q]
    exact h
  · rw [if_neg q]
    refine ⟨?_, fun j hj => ?_⟩
    · refine L2.nd_snoc h.1 fun hm => q ?_
      obtain ⟨p, hp, e⟩ := List.mem_map.mp hm
      exact List.any_eq_true.mpr ⟨p, hp, decide_eq_true e⟩
    · rcases List.mem_append.mp hj with z | z
      · exact h.2 j z
      · rw [List.mem_singleton.mp z]
        exact hk
theorem Ok.del {d : Dct α} {m : Int} (h : d.Ok m) (k : Int) : (d.del k).Ok m := by
  refine ⟨?_, fun j hj => ?_⟩
  · show ((d.l.filter fun kv => decide (kv.1 ≠ k)).map (·.1)).Nodup
    exact (List.Sublist.map _ (List.filter_sublist)).nodup h.1
  · obtain ⟨p, hp, e⟩ := List.mem_map.mp hj
    exact h.2 j (List.mem_map.mpr ⟨p, (List.mem_filter.mp hp).1, e⟩)
theorem nodup_le : ∀ (n : Nat) (l : List Int), l.Nodup → (∀ k ∈ l, 0 ≤ k ∧ k < (n : Int)) → l.length ≤ n
  | 0, l, _, h => by
    cases l with
    | nil => exact Nat.le_refl _
    | cons x l => exact absurd (h x List.mem_cons_self) (by omega)
  | n + 1, l, hn, h => by
    have h1 := nodup_le n (l.filter fun k => decide (k ≠ (n : Int))) (List.filter_sublist.nodup hn) fun k hk => by
      obtain ⟨a, b⟩ := List.mem_filter.mp hk
      have := h k a
      have : k ≠ (n : Int) := of_decide_eq_true b
      omega
    have h2 : l.length ≤ (l.filter fun k => decide (k ≠ (n : Int))).length + 1 := by
      clear h h1
      induction l with
      | nil => exact Nat.zero_le _
      | cons x l ih =>
        obtain ⟨q1, q2⟩ := List.nodup_cons.mp hn
        rw [List.filter_cons]
        by_cases e : x = (n : Int)
        · rw [if_neg (by simp [e])]
          have : l.filter (fun k => decide (k ≠ (n : Int))) = l := by
            apply List.filter_eq_self.mpr
            intro k hk
            exact decide_eq_true fun z => q1 (e.trans z.symm ▸ hk)
          rw [this, List.length_cons]
          exact Nat.le_refl _
        · rw [if_pos (by simp [e]), List.length_cons, List.length_cons]
          have := ih q2
          omega
    omega
theorem Ok.len {d : Dct α} {n : Nat} (h : d.Ok (n : Int)) : d.l.length ≤ n := by
  have := nodup_le n (d.l.map (·.1)) h.1 h.2
  rw [List.length_map] at this
  exact this
end Dct
theorem dix_of {α : Type} [Inhabited α] {d : Dct α} {k : Int} {x : α} (h : d.get? k = some x) : dix d k = x := by
  unfold dix
  rw [h]
  rfl
theorem mem_rng {a b x : Int} : x ∈ rng a b ↔ a ≤ x ∧ x < b := by
  unfold rng
  rw [List.mem_map]
  constructor
  · rintro ⟨i, hi, rfl⟩
    rw [List.mem_range] at hi
    omega
  · intro h
    refine ⟨(x - a).toNat, List.mem_range.mpr (by omega), by omega⟩
theorem len_rng (a b : Int) : (rng a b).length = (b - a).toNat := by
  unfold rng
  rw [List.length_map, List.length_range]
theorem rng_get {a b : Int} {i : Nat} (h : i < (b - a).toNat) : (rng a b)[i]? = some (a + (i : Int)) := by
  unfold rng
  rw [List.getElem?_map, List.getElem?_range h]
  rfl
theorem rng_succ {a b : Int} (h : a ≤ b) : rng a (b + 1) = rng a b ++ [b] := by
  unfold rng
  rw [show (b + 1 - a).toNat = (b - a).toNat + 1 by omega, List.range_succ, List.map_append]
  congr 1
  rw [List.map_cons, List.map_nil]
  congr 1
  omega
theorem rng_nil {a b : Int} (h : b ≤ a) : rng a b = [] := by
  unfold rng
  rw [show (b - a).toNat = 0 by omega]
  rfl
theorem rng_pre {a b x : Int} {pre post : List Int} (h : pre ++ x :: post = rng a b) : pre = rng a x ∧ x = a + pre.length ∧ a ≤ x ∧ x < b := by
  have hx : (rng a b)[pre.length]? = some x := by
    rw [← h, List.getElem?_append_right (Nat.le_refl _), Nat.sub_self]
    rfl
  have hl : pre.length < (b - a).toNat := by
    have := congrArg List.length h
    rw [List.length_append, List.length_cons, len_rng] at this
    omega
  rw [rng_get hl] at hx
  have ex : a + (pre.length : Int) = x := Option.some.inj hx
  refine ⟨?_, ex.symm, by omega, by omega⟩
  apply List.ext_getElem?
  intro i
  by_cases hi : i < pre.length
  · have : (rng a b)[i]? = pre[i]? := by rw [← h, List.getElem?_append_left hi]
    rw [← this, rng_get (by omega), rng_get (by omega)]
  · rw [List.getElem?_eq_none (by omega), List.getElem?_eq_none (by rw [len_rng]; omega)]
theorem mem_enumI {α : Type} {xs : List α} {p : Int × α} : p ∈ enumI xs ↔ 0 ≤ p.1 ∧ xs[p.1.toNat]? = some p.2 := by
  unfold enumI
  rw [List.mem_map]
  constructor
  · rintro ⟨q, hq, rfl⟩
    have h := List.mem_zipIdx_iff_getElem?.mp hq
    exact ⟨by simp, by simpa using h⟩
  · rintro ⟨h0, h⟩
    refine ⟨(p.2, p.1.toNat), List.mem_zipIdx_iff_getElem?.mpr (by simpa using h), ?_⟩
    apply Prod.ext
    · show ((p.1.toNat : Nat) : Int) = p.1
      omega
    · rfl
theorem len_enumI {α : Type} (xs : List α) : (enumI xs).length = xs.length := by
  unfold enumI
  rw [List.length_map, List.length_zipIdx]
instance : Inhabited (Tp Int) := ⟨⟨[]⟩⟩
structure TrOk (trace : List (Tp Int)) : Prop where
  len : trace.length ≤ 100000
  mem : ∀ t ∈ trace, ∀ s ∈ t.l, 0 ≤ s ∧ s < 1000
theorem ix_mem {α : Type} [Inhabited α] {xs : List α} {i : Int} (h0 : 0 ≤ i) (h : i < xs.length) : ix xs i ∈ xs := List.mem_of_getElem? (ix_at h0 h)
def writtenStep (trace : List (Tp Int)) (found : Dct Int) (tick : Int) : Dct Int := (ix trace tick).l.foldl (fun f x => f.put x tick) found
def writtenIn (trace : List (Tp Int)) (start stop : Int) : Dct Int := (rng start (min stop trace.length)).foldl (writtenStep trace) Dct.emp
def lastN (trace : List (Tp Int)) : Nat → Int → Option Int
  | 0, _ => none
  | n + 1, s => if s ∈ (trace.getD n ⟨[]⟩).l then some (n : Int) else lastN trace n s
theorem get?_puts (tick : Int) (s : Int) : ∀ (l : List Int) (d : Dct Int), (l.foldl (fun f x => f.put x tick) d).get? s = if s ∈ l then some tick else d.get? s
  | [], d => by simp
  | x :: l, d => by
    rw [List.foldl_cons, get?_puts tick s l, Dct.get?_put]
    by_cases h1 : s ∈ l
    · simp [h1]
    · by_cases h2 : s = x
      · simp [h2]
      · simp [h1, h2]
theorem lastN_more (trace : List (Tp Int)) (s : Int) : ∀ n, trace.length ≤ n → lastN trace n s = lastN trace trace.length s := by
  intro n h
  induction n with
  | zero => rw [show trace.length = 0 by omega]
  | succ n ih =>
    by_cases e : trace.length = n + 1
    · rw [e]
    · rw [lastN, if_neg, ih (by omega)]
      rw [List.getD_eq_getElem?_getD, List.getElem?_eq_none (by omega)]
      simp
theorem written_last (trace : List (Tp Int)) (s : Int) : ∀ n : Nat, n ≤ trace.length → ((rng 0 (n : Int)).foldl (writtenStep trace) Dct.emp).get? s = lastN trace n s
  | 0, _ => by rw [rng_nil (by omega)]; rfl
  | n + 1, h => by
    rw [show ((n + 1 : Nat) : Int) = (n : Int) + 1 by omega, rng_succ (by omega), List.foldl_append, List.foldl_cons, List.foldl_nil]
    show ((ix trace (n : Int)).l.foldl (fun (f : Dct Int) x => f.put x (n : Int)) _).get? s = _
    rw [get?_puts, written_last trace s n (by omega), lastN]
    have : ix trace (n : Int) = trace.getD n ⟨[]⟩ := by unfold ix; rfl
    rw [this]
theorem writtenIn_get (trace : List (Tp Int)) (stop s : Int) : (writtenIn trace 0 stop).get? s = lastN trace stop.toNat s := by
  unfold writtenIn
  by_cases h : stop < 0
  · rw [rng_nil (by omega), show stop.toNat = 0 by omega]
    rfl
  · by_cases h2 : stop ≤ trace.length
    · rw [Int.min_eq_left h2]
      have e : stop = ((stop.toNat : Nat) : Int) := by omega
      rw [e]
      rw [written_last trace s stop.toNat (by omega)]
      rfl
    · rw [Int.min_eq_right (by omega), written_last trace s trace.length (Nat.le_refl _), lastN_more trace s stop.toNat (by omega)]
end GL
namespace GL
open PySem PySem.Spec PyProof.Rows L2
theorem ix3 {i a b c : Int} (h : 0 ≤ i ∧ i < 3) : 0 ≤ i ∧ i < ([a, b, c] : List Int).length := h
structure SzOk (y : T3 Int Int Int) : Prop where
  n0 : 1 ≤ y.a
  n1 : y.a ≤ 12
  b0 : 1 ≤ y.b
  b1 : y.b ≤ 6
  s0 : 0 ≤ y.c
  s1 : y.c ≤ 12
structure RowOk (n : Int) (t : Tp Int) : Prop where
  up : t.l.Pairwise (· < ·)
  bd : ∀ s ∈ t.l, 0 ≤ s ∧ s < n
structure TrLaw (n most : Int) (tr : List (Tp Int)) : Prop where
  len : (tr.length : Int) ≤ most
  row : ∀ t ∈ tr, RowOk n t
theorem Dct.Ok.mono {α : Type} {d : Dct α} {m m' : Int} (h : d.Ok m) (hm : m ≤ m') : d.Ok m' := ⟨h.1, fun k hk => by have := h.2 k hk; omega⟩
theorem TrLaw.ok {n most : Int} {tr : List (Tp Int)} (h : TrLaw n most tr) (hn : n ≤ 1000) (hm : most ≤ 100000) : TrOk tr := ⟨by have := h.len; omega, fun t ht s hs => by have := (h.row t ht).bd s hs; omega⟩
end GL
namespace GL
open PySem PySem.Spec PyProof.Rows L2
def someM (z : Pen) (n most : Int) : Tp Int × Pen := (⟨(pickX (fun st (_ : Int) => decide ((penTake st n).1 < most)) (fun x => x) (fun st _ => (penTake st n).2) (rng 0 n) z).1⟩, (rng 0 n).foldl (fun st _ => (penTake st n).2) z)
abbrev Tch := List (Tp Int × Tp Int)
def TchOk (n : Int) (y : Tch) : Prop := ∀ t ∈ y, RowOk n t.1 ∧ RowOk n t.2
def wrD (d : Dct Bool) (ws : List Int) : Dct Bool := ws.foldl (fun f x => f.put x true) d
def ndNew (needed : List Int) (written : Dct Bool) (reads : List Int) : List Int := reads.filter fun x => !decide (x ∈ needed) && !(written.get? x).isSome
abbrev LlS := List Int × Dct Bool × Int × Option Int
def llStep (st : LlS) (it : Int × (Tp Int × Tp Int)) : LlS :=
  (st.1 ++ ndNew st.1 st.2.1 it.2.1.l, wrD st.2.1 it.2.2.l,
   if decide (st.2.2.1 < (((st.1 ++ ndNew st.1 st.2.1 it.2.1.l).length : Int) - it.1)) = true then ((st.1 ++ ndNew st.1 st.2.1 it.2.1.l).length : Int) - it.1 else st.2.2.1,
   if decide (st.2.2.1 < (((st.1 ++ ndNew st.1 st.2.1 it.2.1.l).length : Int) - it.1)) = true then some it.1 else st.2.2.2)
@[irreducible] def llM (n : Int) (y : Tch) : T3 (List Int) Int (Option Int) :=
  ⟨((enumI y).foldl llStep ([], Dct.emp, 0, none)).1 ++ (rng 0 n).filter (fun x => !decide (x ∈ ((enumI y).foldl llStep ([], Dct.emp, 0, none)).1)), ((enumI y).foldl llStep ([], Dct.emp, 0, none)).2.2.1, ((enumI y).foldl llStep ([], Dct.emp, 0, none)).2.2.2⟩
def waStep (st : List Int × List Int) (t : Tp Int × Tp Int) : List Int × List Int := (st.1 ++ t.2.l, st.2 ++ t.1.l.filter fun x => !decide (x ∈ st.2) && !decide (x ∈ st.1))
@[irreducible] def wantM (y : Tch) : Int := ((y.foldl waStep ([], [])).2.length : Int)
def laM (reads : List Int) (written : Dct Bool) (came : Dct Int) (now : Int) : List Int := reads.filter fun p => !(written.get? p).isSome && decide (now ≤ (came.get? p).getD now)
def leM (order : List Int) (written : Dct Bool) (came : Dct Int) : List Int := order.filter fun p => !(written.get? p).isSome && !(came.get? p).isSome
def goX (reads order : List Int) (written : Dct Bool) (asks : Bool) (s : Dct Int × Int) : Int := ix [ix (leM order written s.1) 0, ix (laM reads written s.1 s.2) 0] (if asks = true then 1 else 0)
def goM (reads order : List Int) (written : Dct Bool) (asks : Bool) : Nat → Dct Int × Int → Dct Int × Int
  | 0, s => s
  | k + 1, s => if laM reads written s.1 s.2 = [] then s else goM reads order written asks k (s.1.put (goX reads order written asks s) s.2, s.2 + 1)
def CameOk (came : Dct Int) (now : Int) : Prop := (∀ x c, came.get? x = some c → c < now) ∧ came.Ok 1000
theorem la_none {reads : List Int} {written : Dct Bool} {came : Dct Int} {now x : Int} (h : CameOk came now) (hx : x ∈ laM reads written came now) : x ∈ reads ∧ (written.get? x).isSome = false ∧ (came.get? x).isSome = false := by
  obtain ⟨h1, h2⟩ := List.mem_filter.mp hx
  obtain ⟨h3, h4⟩ := Bool.and_eq_true_iff.mp h2
  refine ⟨h1, by simpa using h3, ?_⟩
  cases e : came.get? x with
  | none => rfl
  | some c =>
    rw [e] at h4
    have := h.1 x c e
    have := of_decide_eq_true h4
    dsimp only [Option.getD] at this
    omega
theorem le_of_la {reads order : List Int} {written : Dct Bool} {came : Dct Int} {now x : Int} (h : CameOk came now) (ho : ∀ x ∈ reads, x ∈ order) (hx : x ∈ laM reads written came now) : x ∈ leM order written came := by
  obtain ⟨h1, h2, h3⟩ := la_none h hx
  exact List.mem_filter.mpr ⟨ho x h1, by rw [h2, h3]; rfl⟩
theorem ix0_mem {xs : List Int} (h : xs ≠ []) : ix xs 0 ∈ xs := ix_mem (by omega) (by have := List.length_pos_iff.mpr h; omega)
theorem goX_mem {reads order : List Int} {written : Dct Bool} {asks : Bool} {came : Dct Int} {now : Int} (h : CameOk came now) (ho : ∀ x ∈ reads, x ∈ order) (hl : laM reads written came now ≠ []) : goX reads order written asks (came, now) ∈ leM order written came := by
  have h1 := le_of_la h ho (ix0_mem hl)
  unfold goX
  cases asks with
  | true => exact h1
  | false => exact ix0_mem (List.ne_nil_of_mem h1)
theorem le_less {order : List Int} {written : Dct Bool} {came : Dct Int} {x now : Int} (hx : x ∈ leM order written came) : (leM order written (came.put x now)).length < (leM order written came).length := by
  have e : leM order written (came.put x now) = (leM order written came).filter fun p => decide (p ≠ x) := by
    unfold leM
    rw [List.filter_filter]
    apply List.filter_congr
    intro p _
    rw [Dct.get?_put]
    by_cases q : p = x
    · rw [if_pos q, decide_eq_false (by simpa using q)]
      simp
    · rw [if_neg q, decide_eq_true (by simpa using q)]
      simp
  rw [e]
  have := List.length_filter_lt_length_iff_exists (p := fun p => decide (p ≠ x)) (l := leM order written came)
  exact this.mpr ⟨x, hx, by simp⟩
theorem CameOk.put {came : Dct Int} {now x : Int} (h : CameOk came now) (hx : 0 ≤ x ∧ x < 1000) : CameOk (came.put x now) (now + 1) := by
  refine ⟨fun y c e => ?_, h.2.put _ hx⟩
  rw [Dct.get?_put] at e
  by_cases q : y = x
  · rw [if_pos q] at e
    have : now = c := Option.some.inj e
    omega
  · rw [if_neg q] at e
    have := h.1 y c e
    omega
theorem goM_end {reads order : List Int} {written : Dct Bool} {asks : Bool} {f : Nat} {s : Dct Int × Int} (h : laM reads written s.1 s.2 = []) : goM reads order written asks f s = s := by
  cases f with
  | zero => rfl
  | succ f => rw [goM, if_pos h]
def GoI (reads order : List Int) (written : Dct Bool) (asks : Bool) (X : Dct Int × Int) (st : Dct Int × Int × List Int) : Prop :=
  st.2.2 = laM reads written st.1 st.2.1 ∧ CameOk st.1 st.2.1 ∧ ∃ f, goM reads order written asks f (st.1, st.2.1) = X ∧ (leM order written st.1).length < f
theorem GoI.next {reads order : List Int} {written : Dct Bool} {asks : Bool} {X : Dct Int × Int} {came : Dct Int} {now : Int} {lacks : List Int} (I : GoI reads order written asks X (came, now, lacks)) (ho : ∀ x ∈ reads, x ∈ order) (hb : ∀ x ∈ order, 0 ≤ x ∧ x < 1000) (hl : lacks ≠ []) :
    GoI reads order written asks X (came.put (goX reads order written asks (came, now)) now, now + 1, laM reads written (came.put (goX reads order written asks (came, now)) now) (now + 1)) ∧ (leM order written (came.put (goX reads order written asks (came, now)) now)).length < (leM order written came).length := by
  obtain ⟨h1, h2, f, h3, h4⟩ := I
  dsimp only at h1 h2 h3 h4
  rw [h1] at hl
  have hm := goX_mem (asks := asks) h2 ho hl
  have hd := le_less (now := now) hm
  have hx := hb _ (List.mem_filter.mp hm).1
  refine ⟨⟨rfl, h2.put hx, ?_⟩, hd⟩
  cases f with
  | zero => omega
  | succ f =>
    rw [goM, if_neg hl] at h3
    exact ⟨f, h3, by dsimp only; omega⟩
abbrev PlS := Dct Int × Dct Bool × List Int × Int
def plStep (order : List Int) (asks : Bool) (st : PlS) (t : Tp Int × Tp Int) : PlS :=
  ((cutL (leM order (wrD st.2.1 t.2.l) (goM t.1.l order st.2.1 asks (order.length + 1) (st.1, st.2.2.2)).1) none (some 1)).foldl (fun d p => d.put p (goM t.1.l order st.2.1 asks (order.length + 1) (st.1, st.2.2.2)).2) (goM t.1.l order st.2.1 asks (order.length + 1) (st.1, st.2.2.2)).1,
   wrD st.2.1 t.2.l, st.2.2.1 ++ [(goM t.1.l order st.2.1 asks (order.length + 1) (st.1, st.2.2.2)).2], (goM t.1.l order st.2.1 asks (order.length + 1) (st.1, st.2.2.2)).2 + 1)
@[irreducible] def playG (y : Tch) (order : List Int) (asks : Bool) : List Int × Int :=
  ((y.foldl (plStep order asks) (Dct.emp, Dct.emp, [], 0)).2.2.1, maxL ([0] ++ (cutL (y.foldl (plStep order asks) (Dct.emp, Dct.emp, [], 0)).2.2.1 none (some 1)).map fun _ => lastI (y.foldl (plStep order asks) (Dct.emp, Dct.emp, [], 0)).2.2.1 - ((y.foldl (plStep order asks) (Dct.emp, Dct.emp, [], 0)).2.2.1.length : Int) + 1))
def PlOk (st : PlS) : Prop := CameOk st.1 st.2.2.2 ∧ st.2.1.Ok 1000
end GL
namespace GL
open PySem PySem.Spec PyProof.Rows L2
abbrev OrS := Pen × List Int
def orE (st : OrS) (_ : Int) : Int := ix st.2 (penTake st.1 (st.2.length : Int)).1
def orStep (st : OrS) (_ : Int) : OrS := ((penTake st.1 (st.2.length : Int)).2, st.2.eraseIdx (penTake st.1 (st.2.length : Int)).1.toNat)
@[irreducible] def orderM (z : Pen) (n : Int) : List Int := (mapX orE orStep (rng 0 n) (z, rng 0 n)).1
def nextM (order : List Int) (here : Dct Bool) : Option Int := order.find? fun x => !(here.get? x).isSome
def lackQ (reads : List Int) (here : Dct Bool) : List Int := reads.filter fun x => !(here.get? x).isSome
def HereR (here written : Dct Bool) (came : Dct Int) : Prop := ∀ x, (here.get? x).isSome = ((written.get? x).isSome || (came.get? x).isSome)
theorem lack_la {reads : List Int} {here written : Dct Bool} {came : Dct Int} {now : Int} (h : HereR here written came) (hc : CameOk came now) : lackQ reads here = laM reads written came now := by
  unfold lackQ laM
  apply List.filter_congr
  intro x _
  rw [h x]
  cases e : came.get? x with
  | none => simp
  | some c =>
    have := hc.1 x c e
    simp only [Option.isSome_some, Bool.or_true, Bool.not_true, Option.getD_some]
    rw [decide_eq_false (by omega), Bool.and_false]
theorem lackQ_le {order : List Int} {here written : Dct Bool} {came : Dct Int} (h : HereR here written came) : lackQ order here = leM order written came := by
  unfold lackQ leM
  apply List.filter_congr
  intro x _
  rw [h x, Bool.not_or]
theorem next_lack (order : List Int) (here : Dct Bool) : nextM order here = (lackQ order here).head? := by
  unfold nextM lackQ
  rw [List.head?_filter]
theorem HereR.put {here written : Dct Bool} {came : Dct Int} (h : HereR here written came) (x now : Int) : HereR (here.put x true) written (came.put x now) := fun y => by
  rw [Dct.get?_put, Dct.get?_put]
  by_cases e : y = x
  · rw [if_pos e, if_pos e]
    simp
  · rw [if_neg e, if_neg e]
    exact h y
theorem HereR.wr : ∀ (ws : List Int) {here written : Dct Bool} {came : Dct Int}, HereR here written came → HereR (wrD here ws) (wrD written ws) came
  | [], _, _, _, h => h
  | x :: ws, here, written, came, h => HereR.wr ws (here := here.put x true) (written := written.put x true) fun y => by
    rw [Dct.get?_put, Dct.get?_put]
    by_cases e : y = x
    · rw [if_pos e, if_pos e]
      simp
    · rw [if_neg e, if_neg e]
      exact h y
def GbI (reads order : List Int) (written : Dct Bool) (asks : Bool) (X : Dct Int × Int) (st : Dct Bool × Int) : Prop :=
  ∃ came, HereR st.1 written came ∧ st.1.Ok 1000 ∧ GoI reads order written asks X (came, st.2, laM reads written came st.2)
theorem head_ix {xs : List Int} (h : xs ≠ []) : xs.head? = some (ix xs 0) := by
  cases xs with
  | nil => exact absurd rfl h
  | cons x xs => rfl
def comM (reads order : List Int) (here : Dct Bool) (asks : Bool) : Option Int := if asks = true then some (ix (lackQ reads here) 0) else nextM order here
theorem GbI.next {reads order : List Int} {written here : Dct Bool} {asks : Bool} {X : Dct Int × Int} {now : Int} (I : GbI reads order written asks X (here, now)) (ho : ∀ x ∈ reads, x ∈ order) (hb : ∀ x ∈ order, 0 ≤ x ∧ x < 1000) (hl : lackQ reads here ≠ []) :
    (comM reads order here asks).isSome = true ∧ (0 ≤ (comM reads order here asks).getD default ∧ (comM reads order here asks).getD default < 1000) ∧ GbI reads order written asks X (here.put ((comM reads order here asks).getD default) true, now + 1) ∧ (lackQ order (here.put ((comM reads order here asks).getD default) true)).length < (lackQ order here).length := by
  obtain ⟨came, h1, hok, h2⟩ := I
  dsimp only at h1 h2 hok
  have hcam := h2.2.1
  dsimp only at hcam
  have hla := lack_la (reads := reads) h1 hcam
  have hl' : laM reads written came now ≠ [] := by rw [← hla]; exact hl
  obtain ⟨n1, n2⟩ := h2.next ho hb hl'
  have hm := goX_mem (asks := asks) hcam ho hl'
  have e : comM reads order here asks = some (goX reads order written asks (came, now)) := by
    unfold comM goX
    rw [next_lack, hla, lackQ_le h1]
    cases asks with
    | true => rfl
    | false =>
      rw [if_neg (by decide)]
      exact head_ix (List.ne_nil_of_mem hm)
  have hx := hb _ (List.mem_filter.mp hm).1
  rw [e]
  have h4 := h1.put (goX reads order written asks (came, now)) now
  refine ⟨rfl, hx, ⟨_, h4, hok.put _ hx, n1⟩, ?_⟩
  show (lackQ order (here.put (goX reads order written asks (came, now)) true)).length < _
  rw [lackQ_le h4, lackQ_le h1]
  exact n2
theorem GbI.stop {reads order : List Int} {written here : Dct Bool} {asks : Bool} {X : Dct Int × Int} {now : Int} (I : GbI reads order written asks X (here, now)) (hl : lackQ reads here = []) : HereR here written X.1 ∧ X.2 = now ∧ CameOk X.1 now ∧ here.Ok 1000 := by
  obtain ⟨came, h1, hok, h2, h3, f, h4, h5⟩ := I
  dsimp only at h1 h3 h4 hok
  have hla := lack_la (reads := reads) h1 h3
  have e : X = (came, now) := by rw [← h4, goM_end (by rw [← hla]; exact hl)]
  rw [e]
  exact ⟨h1, rfl, h3, hok⟩
def GnI (order : List Int) (asks : Bool) (pre : Tch) (st : Dct Bool × List Int × Int) : Prop :=
  ∃ came written, pre.foldl (plStep order asks) (Dct.emp, Dct.emp, [], 0) = (came, written, st.2.1, st.2.2) ∧ HereR st.1 written came ∧ st.1.Ok 1000 ∧ (pre.length : Int) ≤ st.2.2 ∧ st.2.1.length = pre.length ∧ (st.2.1 ≠ [] → lastI st.2.1 + 1 = st.2.2)
theorem GnI.start (order : List Int) (asks : Bool) : GnI order asks [] (Dct.emp, [], 0) := ⟨Dct.emp, Dct.emp, rfl, fun x => rfl, Dct.Ok.emp, Int.le_refl _, rfl, fun h => absurd rfl h⟩
theorem goM_ge {reads order : List Int} {written : Dct Bool} {asks : Bool} : ∀ (f : Nat) (s : Dct Int × Int), s.2 ≤ (goM reads order written asks f s).2
  | 0, s => Int.le_refl _
  | f + 1, s => by
    rw [goM]
    split
    · exact Int.le_refl _
    · have := goM_ge (reads := reads) (order := order) (written := written) (asks := asks) f (s.1.put (goX reads order written asks s) s.2, s.2 + 1)
      dsimp only at this
      exact Int.le_trans (by omega) this
theorem lastI_snoc (xs : List Int) (x : Int) : lastI (xs ++ [x]) = x := by
  unfold lastI ix
  simp
theorem GnI.step {order : List Int} {asks : Bool} {pre : Tch} {t : Tp Int × Tp Int} {came : Dct Int} {written here here2 : Dct Bool} {done : List Int} {now : Int}
    (hst : pre.foldl (plStep order asks) (Dct.emp, Dct.emp, [], 0) = (came, written, done, now)) (hlen : (pre.length : Int) ≤ now) (hdl : done.length = pre.length)
    (h : HereR here (wrD written t.2.l) (goM t.1.l order written asks (order.length + 1) (came, now)).1)
    (h2 : here2 = match nextM order here with | none => here | some x => here.put x true) (hok : here2.Ok 1000) :
    GnI order asks (pre ++ [t]) (here2, done ++ [(goM t.1.l order written asks (order.length + 1) (came, now)).2], (goM t.1.l order written asks (order.length + 1) (came, now)).2 + 1) := by
  have hge := goM_ge (reads := t.1.l) (order := order) (written := written) (asks := asks) (order.length + 1) (came, now)
  dsimp only at hge
  refine ⟨_, _, by rw [List.foldl_append, hst]; rfl, ?_, hok, ?_, ?_, ?_⟩
  · show HereR here2 (wrD written t.2.l) ((cutL (leM order (wrD written t.2.l) (goM t.1.l order written asks (order.length + 1) (came, now)).1) none (some 1)).foldl (fun d p => d.put p (goM t.1.l order written asks (order.length + 1) (came, now)).2) (goM t.1.l order written asks (order.length + 1) (came, now)).1)
    rw [h2, next_lack, lackQ_le h]
    cases leM order (wrD written t.2.l) (goM t.1.l order written asks (order.length + 1) (came, now)).1 with
    | nil => exact h
    | cons x xs => exact h.put x _
  · rw [List.length_append, List.length_singleton]
    dsimp only
    omega
  · dsimp only
    rw [List.length_append, List.length_append, hdl]
    rfl
  · intro _
    dsimp only
    rw [lastI_snoc]
theorem GnI.end {order : List Int} {asks : Bool} {y : Tch} {here : Dct Bool} {done : List Int} {now : Int} (I : GnI order asks y (here, done, now)) :
    playG y order asks = (done, if done = [] then 0 else lastI done - (done.length : Int) + 1) := by
  obtain ⟨came, written, h1, h2, _, h3, h4, h5⟩ := I
  dsimp only at h1 h3 h4 h5
  unfold playG
  rw [h1]
  dsimp only
  cases done with
  | nil => rfl
  | cons x xs =>
    have h6 := h5 (by simp)
    rw [if_neg (by simp)]
    have e : cutL (x :: xs) none (some 1) = [x] := rfl
    rw [e]
    congr 1
    show max (0 : Int) (lastI (x :: xs) - ((x :: xs).length : Int) + 1) = _
    omega
end GL
namespace GL
open PySem PySem.Spec PyProof.Rows L2
def WRow.isSet : WRow → Bool
  | .set _ _ => true
  | _ => false
def WRow.isAdd : WRow → Bool
  | .add _ _ => true
  | _ => false
def WRow.isJump : WRow → Bool
  | .jump _ _ => true
  | _ => false
def WRow.isSay : WRow → Bool
  | .say _ => true
  | _ => false
def WRow.isTake : WRow → Bool
  | .take _ => true
  | _ => false
def WRow.isFin : WRow → Bool
  | .fin => true
  | _ => false
abbrev Prog := T3 Int Int (Tp WRow)
abbrev Stand := Int × Tp Int
abbrev TickR := T5 Stand Str (Option Int) (Tp Int) (Tp Int)
def RowV (n w many : Int) : WRow → Prop
  | .set p v => (0 ≤ p ∧ p < n) ∧ 0 ≤ v ∧ v < w
  | .add p q => (0 ≤ p ∧ p < n) ∧ 0 ≤ q ∧ q < n
  | .jump p r => (0 ≤ p ∧ p < n) ∧ 0 ≤ r ∧ r < many
  | .say p => 0 ≤ p ∧ p < n
  | .take p => 0 ≤ p ∧ p < n
  | .fin => True
structure ProgOk (g : Prog) : Prop where
  n0 : 1 ≤ g.a
  n1 : g.a ≤ 12
  w0 : 2 ≤ g.b
  w1 : g.b ≤ 100
  m0 : 1 ≤ g.c.l.length
  m1 : g.c.l.length ≤ 20
  rows : ∀ r ∈ g.c.l, RowV g.a g.b g.c.l.length r
structure StandOk (g : Prog) (s : Stand) : Prop where
  a0 : 0 ≤ s.1
  a1 : s.1 ≤ g.c.l.length
  len : (s.2.l.length : Int) = g.a
  nums : ∀ x ∈ s.2.l, 0 ≤ x ∧ x < g.b
def rowAtM (g : Prog) (s : Stand) : Option WRow := if (decide (s.1 = (g.c.l.length : Int)) || decide (ix g.c.l s.1 = WRow.fin)) = true then none else some (ix g.c.l s.1)
def readsM : WRow → Tp Int
  | .add p q => ⟨usrt [p, q]⟩
  | .jump p _ => ⟨[p]⟩
  | .say p => ⟨[p]⟩
  | _ => ⟨[]⟩
def writesM : WRow → Tp Int
  | .set p _ => ⟨[p]⟩
  | .add p _ => ⟨[p]⟩
  | .take p => ⟨[p]⟩
  | _ => ⟨[]⟩
def withM (sheets : Tp Int) (sheet number : Int) : Tp Int := ⟨cutL sheets.l none (some sheet) ++ [number] ++ cutL sheets.l (some (sheet + 1)) none⟩
def dSh (w : Int) (sheets : Tp Int) (letters : List Int) : WRow → Tp Int
  | .set p v => withM sheets p v
  | .add p q => withM sheets p ((ix sheets.l p + ix sheets.l q) % w)
  | .take p => withM sheets p (ix letters 0)
  | _ => sheets
def dWo : WRow → Str
  | .say _ => Str.ofString "said"
  | .take _ => Str.ofString "took"
  | _ => Str.ofString "did"
def dNu (sheets : Tp Int) (letters : List Int) : WRow → Option Int
  | .say p => some (ix sheets.l p)
  | .take _ => some (ix letters 0)
  | _ => none
def dGo (at_ : Int) (sheets : Tp Int) : WRow → Int
  | .jump p r => if decide (ix sheets.l p = 0) = true then r else at_ + 1
  | _ => at_ + 1
def doneM (g : Prog) (s : Stand) (r : WRow) (letters : List Int) : TickR := ⟨(dGo s.1 s.2 r, dSh g.b s.2 letters r), dWo r, dNu s.2 letters r, readsM r, writesM r⟩
@[irreducible] def tickM (g : Prog) (s : Stand) (letters : List Int) : TickR := match rowAtM g s with
  | none => ⟨s, Str.ofString "ended", none, ⟨[]⟩, ⟨[]⟩⟩
  | some r => if (r.isTake && decide (letters = [])) = true then ⟨s, Str.ofString "waits", none, ⟨[]⟩, ⟨[]⟩⟩ else doneM g s r letters
theorem with_set {sheets : Tp Int} {p v : Int} (h : 0 ≤ p ∧ p < sheets.l.length) : withM sheets p v = ⟨sheets.l.set p.toNat v⟩ := by
  obtain ⟨l⟩ := sheets
  unfold withM
  congr 1
  dsimp only at h ⊢
  have e : p = ((p.toNat : Nat) : Int) := by omega
  have e1 : p + 1 = ((p.toNat + 1 : Nat) : Int) := by omega
  unfold cutL
  rw [e1, e, HT.sIx_none, HT.sIx_none, HT.sIx_nat, HT.sIx_nat, Nat.min_eq_left (by omega), Nat.min_eq_left (by omega), List.drop_zero, Nat.sub_zero, Int.toNat_natCast,
    List.take_of_length_le (l := l.drop (p.toNat + 1)) (by rw [List.length_drop]; omega), List.set_eq_take_append_cons_drop, if_pos (by omega), List.append_assoc]
  rfl
@[irreducible] def rowM (z : Pen) (n w many : Int) (takes : Bool) : WRow × Pen :=
  let way := penTake z 14
  let p := penTake way.2 n
  if decide (way.1 < 3) = true then (.set p.1 (penTake p.2 w).1, (penTake p.2 w).2)
  else if decide (way.1 < 7) = true then (.add p.1 (penTake p.2 n).1, (penTake p.2 n).2)
  else if decide (way.1 < 9) = true then (.jump p.1 (penTake p.2 many).1, (penTake p.2 many).2)
  else if decide (way.1 < 11) = true then (.say p.1, p.2)
  else if (decide (way.1 < 13) && takes) = true then (.take p.1, p.2)
  else if decide (way.1 < 13) = true then (.add p.1 p.1, p.2)
  else (ix [.fin, .jump p.1 (penTake p.2 many).1, .say p.1] (penTake (penTake p.2 many).2 3).1, (penTake (penTake p.2 many).2 3).2)
def RowT (takes : Bool) (r : WRow) : Prop := r.isTake = true → takes = true
def shE (w : Int) (st : Pen) (_ : Int) : Int := (penTake (penTake st 3).2 (ix [w, 1] (if decide ((penTake st 3).1 = 0) = true then 1 else 0))).1
def shStep (w : Int) (st : Pen) (_ : Int) : Pen := (penTake (penTake st 3).2 (ix [w, 1] (if decide ((penTake st 3).1 = 0) = true then 1 else 0))).2
@[irreducible] def sheetsM (z : Pen) (g : Prog) : Tp Int × Pen := (⟨(mapX (shE g.b) (shStep g.b) (rng 0 g.a) z).1⟩, (mapX (shE g.b) (shStep g.b) (rng 0 g.a) z).2)
theorem tick_row {g : Prog} {s : Stand} {r : WRow} (hg : ProgOk g) (hs : StandOk g s) (h : rowAtM g s = some r) : s.1 < g.c.l.length ∧ r = ix g.c.l s.1 ∧ r ≠ .fin ∧ RowV g.a g.b g.c.l.length r := by
  unfold rowAtM at h
  split at h
  · cases h
  · rename_i hc
    have e : ix g.c.l s.1 = r := Option.some.inj h
    simp at hc
    have h1 := hs.a0
    have h2 := hs.a1
    have hlt : s.1 < g.c.l.length := by omega
    refine ⟨hlt, e.symm, by rw [← e]; exact hc.2, ?_⟩
    rw [← e]
    exact hg.rows _ (ix_mem h1 hlt)
theorem rv2 {n w m : Int} {r : WRow} (h : RowV n w m r) (hn : r.isAdd = true) : 0 ≤ r.a2 ∧ r.a2 < n := by
  cases r <;> first | exact h.2 | exact absurd hn Bool.false_ne_true
theorem some_of {o : Option WRow} (h : o.isNone = false) : o.isSome = true := by
  cases o with
  | none => cases h
  | some r => rfl
section
variable {r : WRow} {w : Int} {sheets : Tp Int} {letters : List Int}
end
end GL
namespace L2
open PySem PySem.Spec PyProof.Rows
section
variable {X : Cx}
def gFld (K : PySem.W.Frag) (to : TE) (f : Str) : TG := fun v σ H Q => to σ H fun x H1 => ∃ a C dx fs, x = .ref a ∧ H1 a = some (.ins C dx fs) ∧ Cls K C ∧ NoAttr K C f ∧ fs.length < 1000 ∧ Q σ (upd H1 a (.ins C dx (putF f v fs)))
end
end L2
namespace GL
open PySem PySem.Spec PyProof.Rows L2
def fIx (f : Str) : List Str → Nat
  | [] => 0
  | k :: ks => if k = f then 0 else fIx f ks + 1
theorem look_zip {f : Str} : ∀ {ks : List Str} {vs : List V} {n : Nat}, fIx f ks = n → n < ks.length → (ks.zip vs).lookup f = vs[n]?
  | [], _, _, _, h => absurd h (Nat.not_lt_zero _)
  | _ :: _, [], _, _, _ => rfl
  | k :: ks, v :: vs, n, e, h => by
    unfold fIx at e
    rw [List.zip_cons_cons]
    by_cases c : k = f
    · rw [if_pos c] at e
      subst e c
      simp [List.lookup]
    · rw [if_neg c] at e
      subst e
      have hb : (f == k) = false := beq_eq_false_iff_ne.mpr fun z => c z.symm
      simp only [List.lookup, hb]
      rw [look_zip (ks := ks) (vs := vs) rfl (by simpa using h)]
      rfl
theorem look_none {f : Str} : ∀ {ks : List Str} {vs : List V}, f ∉ ks → (ks.zip vs).lookup f = none
  | [], _, _ => rfl
  | _ :: _, [], _ => rfl
  | k :: ks, v :: vs, h => by
    have hb : (f == k) = false := beq_eq_false_iff_ne.mpr fun z => h (by rw [z]; exact List.mem_cons_self)
    rw [List.zip_cons_cons]
    simp only [List.lookup, hb]
    exact look_none fun z => h (List.mem_cons_of_mem _ z)
theorem put_zip {f : Str} {y : V} : ∀ {ks : List Str} {vs : List V} {n : Nat}, fIx f ks = n → n < ks.length → ks.length = vs.length → putF f y (ks.zip vs) = ks.zip (vs.set n y)
  | [], _, _, _, h, _ => absurd h (Nat.not_lt_zero _)
  | _ :: _, [], _, _, _, h => by cases h
  | k :: ks, v :: vs, n, e, h, hl => by
    unfold fIx at e
    rw [List.zip_cons_cons]
    unfold putF
    by_cases c : k = f
    · rw [if_pos c] at e ⊢
      subst e
      rfl
    · rw [if_neg c] at e ⊢
      subst e
      rw [put_zip (ks := ks) (vs := vs) rfl (by simpa using h) (by simpa using hl)]
      rfl
theorem put_snoc {f : Str} {y : V} : ∀ {ks : List Str} {vs : List V}, f ∉ ks → ks.length = vs.length → putF f y (ks.zip vs) = (ks ++ [f]).zip (vs ++ [y])
  | [], [], _, _ => rfl
  | [], _ :: _, _, h => by cases h
  | _ :: _, [], _, h => by cases h
  | k :: ks, v :: vs, h, hl => by
    rw [List.zip_cons_cons]
    unfold putF
    rw [if_neg fun z => h (by rw [z]; exact List.mem_cons_self), put_snoc (fun z => h (List.mem_cons_of_mem _ z)) (by simpa using hl)]
    rfl
def oV : Option Int → V
  | none => .non
  | some x => .int x
structure Car (C : Addr) where
  a : Addr
  w : Addr
  s : Addr
  f : Addr
  b : Addr
  g : Prog
  st : Stand
  houses : Int
  place : Int
  wait : List Int
  said : List Int
  done : Int
  goal : Option Int
  still : Bool
  fresh : Dct Bool
  made : Int
  absent : Dct Bool
def carK : List Str := ["program", "stand", "houses", "place", "waiting", "spoken", "done", "goal", "is_still", "fresh", "made", "absent"]
def carV {C : Addr} (z : Car C) (pv sv : V) : List V := [pv, sv, .int z.houses, .int z.place, .ref z.w, .ref z.s, .int z.done, oV z.goal, .bl z.still, .ref z.f, .int z.made, .ref z.b]
structure CarAt {C : Addr} (K : Fg) (S H : Hp) (z : Car C) (dx : Addr) (pv sv : V) (kf kb : List (Key × V)) : Prop where
  cl : Cls K C
  na : ∀ k ∈ carK, NoAttr K C k
  ob : H z.a = some (.ins C dx (carK.zip (carV z pv sv)))
  rg : Py.rep K S pv z.g
  rs : Py.rep K S sv z.st
  hw : H z.w = some (.lst (z.wait.map V.int))
  hs : H z.s = some (.lst (z.said.map V.int))
  hf : H z.f = some (.dK kf)
  rf : RepD K S kf z.fresh.l
  hb : H z.b = some (.dK kb)
  rb : RepD K S kb z.absent.l
  d1 : z.w ≠ z.s
  d2 : z.f ≠ z.b
def Car.fp {C : Addr} (z : Car C) : List Addr := [z.a, z.w, z.s, z.f, z.b]
section
variable {C : Addr} {K : Fg} {S S' H H' : Hp} {z z' : Car C} {dx : Addr} {pv sv : V} {kf kb : List (Key × V)}
theorem CarAt.mono (c : CarAt K S H z dx pv sv kf kb) (e : Same S S') (h : ∀ p ∈ z.fp, H' p = H p) : CarAt K S' H' z dx pv sv kf kb :=
  ⟨c.cl, c.na, by rw [h _ (by simp [Car.fp])]; exact c.ob, Py.mono e c.rg, Py.mono e c.rs, by rw [h _ (by simp [Car.fp])]; exact c.hw, by rw [h _ (by simp [Car.fp])]; exact c.hs, by rw [h _ (by simp [Car.fp])]; exact c.hf, c.rf.mono e, by rw [h _ (by simp [Car.fp])]; exact c.hb, c.rb.mono e, c.d1, c.d2⟩
instance : Own (Car C) := ⟨fun K S H v ps z => v = .ref z.a ∧ ps = z.fp ∧ ∃ dx pv sv kf kb, CarAt K S H z dx pv sv kf kb, fun {K S S' H H' v ps x} e a ⟨h1, h2, dx, pv, sv, kf, kb, c⟩ => ⟨h1, h2, dx, pv, sv, kf, kb, c.mono e (by rw [← h2]; exact a)⟩⟩
instance : Anch (Car C) := ⟨fun z => (.ref z.a, z.fp), fun ⟨h1, h2, _⟩ => by rw [h1, h2]⟩
theorem CarAt.ne_w (c : CarAt K S H z dx pv sv kf kb) : z.w ≠ z.a := fun e => by have h := c.hw; rw [e, c.ob] at h; cases h
theorem CarAt.ne_s (c : CarAt K S H z dx pv sv kf kb) : z.s ≠ z.a := fun e => by have h := c.hs; rw [e, c.ob] at h; cases h
theorem CarAt.ne_f (c : CarAt K S H z dx pv sv kf kb) : z.f ≠ z.a := fun e => by have h := c.hf; rw [e, c.ob] at h; cases h
theorem CarAt.ne_b (c : CarAt K S H z dx pv sv kf kb) : z.b ≠ z.a := fun e => by have h := c.hb; rw [e, c.ob] at h; cases h
theorem CarAt.ne_sf (c : CarAt K S H z dx pv sv kf kb) : z.s ≠ z.f := fun e => by have h := c.hs; rw [e, c.hf] at h; cases h
theorem CarAt.ne_sb (c : CarAt K S H z dx pv sv kf kb) : z.s ≠ z.b := fun e => by have h := c.hs; rw [e, c.hb] at h; cases h
theorem CarAt.set {pv' sv' : V} {f : Str} {y : V} {n : Nat} (c : CarAt K S H z dx pv sv kf kb) (hn : fIx f carK = n) (hl : n < 12) (e : (carV z pv sv).set n y = carV z' pv' sv') (ha : z'.a = z.a) (h1 : z'.w = z.w) (h2 : z'.s = z.s) (h3 : z'.f = z.f) (h4 : z'.b = z.b)
    (w1 : z'.wait = z.wait) (w2 : z'.said = z.said) (w3 : z'.fresh = z.fresh) (w4 : z'.absent = z.absent) (rg : Py.rep K S pv' z'.g) (rs : Py.rep K S sv' z'.st) : CarAt K S (upd H z.a (.ins C dx (putF f y (carK.zip (carV z pv sv))))) z' dx pv' sv' kf kb := by
  refine ⟨c.cl, c.na, ?_, rg, rs, ?_, ?_, ?_, by rw [w3]; exact c.rf, ?_, by rw [w4]; exact c.rb, by rw [h1, h2]; exact c.d1, by rw [h3, h4]; exact c.d2⟩
  · rw [ha, upd_same, put_zip hn hl rfl, e]
  · rw [h1, w1, upd_ne c.ne_w]; exact c.hw
  · rw [h2, w2, upd_ne c.ne_s]; exact c.hs
  · rw [h3, upd_ne c.ne_f]; exact c.hf
  · rw [h4, upd_ne c.ne_b]; exact c.hb
end
section
variable {C : Addr} {K : Fg} {B S0 S1 S S' D : Hp} {σ : L2.St} {H H' : Hp} {F : Nat → List Addr} {G G' G1 G2 G3 G4 G5 : List Sl} {ta tb tc td te : TE} {i j l : Nat} {t u : TS} {E : Ends} {z : Car C}
end
end GL
namespace GL
open PySem PySem.Spec PyProof.Rows L2
structure Lnt (α : Type) where
  B : Hp
  S1 : Hp
  SL : Hp
  x : List α
instance {α : Type} [Py α] : Py (Lnt α) := ⟨fun K S v y => ∃ q vs, v = .ref q ∧ y.SL = upd y.S1 q (.lst vs) ∧ y.S1 q = none ∧ y.B q = none ∧ RepL K y.S1 vs y.x ∧ Same y.SL S, fun e ⟨q, vs, h1, h2, h3, h4, h5, h6⟩ => ⟨q, vs, h1, h2, h3, h4, h5, h6.trans e⟩⟩
section
variable {K : Fg} {B S0 S1 S S' SL D : Hp} {σ : L2.St} {H H' : Hp} {F : Nat → List Addr} {G G' G1 G2 G3 : List Sl} {ta tb tc te : TE} {i j : Nat} {t u : TS} {E : Ends}
inductive ThX (S : Hp) : List Sl → List Sl → Prop
  | n : ThX S [] []
  | k {α : Type} [Py α] {x : α} {S' : Hp} {G G' : List Sl} (h : Same S' S) : ThX S G G' → ThX S (.im (At1.mk S' x) :: G) (.im (At1.mk S' x) :: G')
  | l {α : Type} [Py α] {x : List α} {B S' : Hp} {G G' : List Sl} : ThX S G G' → ThX S (.im (Lnt.mk B S' S x) :: G) (.im (Lnt.mk B S' S x) :: G')
  | o {α : Type} [Own α] [OwnI α] {x : α} {G G' : List Sl} : ThX S G G' → ThX S (.ow x :: G) (.ow x :: G')
  | d {s : Sl} {G G' : List Sl} : ThX S G G' → ThX S (.no :: G) (s :: G')
theorem ThX.len {G G' : List Sl} (h : ThX S G G') : G.length = G'.length := by
  induction h with
  | n => rfl
  | k _ _ ih => rw [List.length_cons, List.length_cons, ih]
  | l _ ih => rw [List.length_cons, List.length_cons, ih]
  | o _ ih => rw [List.length_cons, List.length_cons, ih]
  | d _ ih => rw [List.length_cons, List.length_cons, ih]
theorem ThX.get {G G' : List Sl} (t : ThX S G G') : ∀ (i : Nat) (s : Sl), G[i]? = some s → ∃ s', G'[i]? = some s' ∧ ∀ (K : Fg) (S2 H H' : Hp) (sv : Option (Option V)) (ps : List Addr), (∀ p ∈ ps, H' p = H p) → SlOk K S2 H sv ps s' → SlOk K S H' sv ps s := by
  induction t with
  | n => intro i s e; simp at e
  | k h t ih =>
    intro i s e
    cases i with
    | zero =>
      simp only [List.getElem?_cons_zero, Option.some.injEq] at e
      subst e
      exact ⟨_, rfl, fun K S2 H H' sv ps hH ⟨v, h1, h2, h3⟩ => ⟨v, h1, h2, h⟩⟩
    | succ i => simpa using ih i s (by simpa using e)
  | l t ih =>
    intro i s e
    cases i with
    | zero =>
      simp only [List.getElem?_cons_zero, Option.some.injEq] at e
      subst e
      exact ⟨_, rfl, fun K S2 H H' sv ps hH ⟨v, h1, q, vs, a1, a2, a3, a4, a5, a6⟩ => ⟨v, h1, q, vs, a1, a2, a3, a4, a5, Same.refl _⟩⟩
    | succ i => simpa using ih i s (by simpa using e)
  | o t ih =>
    intro i s e
    cases i with
    | zero =>
      simp only [List.getElem?_cons_zero, Option.some.injEq] at e
      subst e
      exact ⟨_, rfl, fun K S2 H H' sv ps hH ⟨v, h1, h2⟩ => ⟨v, h1, Own.mono (Same.refl _) hH (OwnI.go h2)⟩⟩
    | succ i => simpa using ih i s (by simpa using e)
  | d t ih =>
    intro i s e
    cases i with
    | zero =>
      simp only [List.getElem?_cons_zero, Option.some.injEq] at e
      subst e
      exact ⟨_, rfl, fun K S2 H H' sv ps hH _ => True.intro⟩
    | succ i => simpa using ih i s (by simpa using e)
inductive Kp (S : Hp) : Sl → Sl → Prop
  | k {α : Type} [Py α] {x : α} : Kp S (.im (At1.mk S x)) (.im (At1.mk S x))
  | o {α : Type} [Own α] [OwnI α] {x : α} : Kp S (.ow x) (.ow x)
  | d {s : Sl} : Kp S .no s
theorem Kp.ok {s s' : Sl} {S2 : Hp} {sv : Option (Option V)} {ps : List Addr} (h : Kp S s s') (q : SlOk K S2 H sv ps s') : SlOk K S H sv ps s := by
  cases h with
  | k =>
    obtain ⟨v, h1, h2, h3⟩ := q
    exact ⟨v, h1, h2, Same.refl _⟩
  | o =>
    obtain ⟨v, h1, h2⟩ := q
    exact ⟨v, h1, OwnI.go h2⟩
  | d => exact True.intro
inductive Kps (S : Hp) : List Sl → List Sl → Prop
  | n : Kps S [] []
  | c {s s' : Sl} {G G' : List Sl} : Kp S s s' → Kps S G G' → Kps S (s :: G) (s' :: G')
theorem Kps.len {G G' : List Sl} (h : Kps S G G') : G.length = G'.length := by
  induction h with
  | n => rfl
  | c _ _ ih => rw [List.length_cons, List.length_cons, ih]
theorem Kps.get {G G' : List Sl} (t : Kps S G G') : ∀ (i : Nat) (s : Sl), G[i]? = some s → ∃ s', G'[i]? = some s' ∧ Kp S s s' := by
  induction t with
  | n => intro i s e; simp at e
  | c h t ih =>
    intro i s e
    cases i with
    | zero =>
      simp only [List.getElem?_cons_zero, Option.some.injEq] at e
      subst e
      exact ⟨_, rfl, h⟩
    | succ i => simpa using ih i s (by simpa using e)
inductive LeU : List Sl → List Sl → Prop
  | n : LeU [] []
  | k {s : Sl} {G G' : List Sl} : LeU G G' → LeU (s :: G) (s :: G')
  | d {s : Sl} {G G' : List Sl} : LeU G G' → LeU (.no :: G) (s :: G')
  | t {α : Type} [Py α] {x : α} {S : Hp} {G G' : List Sl} : LeU G G' → LeU (.im x :: G) (.im (At1.mk S x) :: G')
theorem LeU.len {G G' : List Sl} (h : LeU G G') : G.length = G'.length := by
  induction h with
  | n => rfl
  | k _ ih => rw [List.length_cons, List.length_cons, ih]
  | d _ ih => rw [List.length_cons, List.length_cons, ih]
  | t _ ih => rw [List.length_cons, List.length_cons, ih]
theorem LeU.get {G G' : List Sl} (t : LeU G G') : ∀ (i : Nat) (s : Sl), G[i]? = some s → ∃ s', G'[i]? = some s' ∧ ∀ (K : Fg) (S H : Hp) (sv : Option (Option V)) (ps : List Addr), SlOk K S H sv ps s' → SlOk K S H sv ps s := by
  induction t with
  | n => intro i s e; simp at e
  | k t ih =>
    intro i s e
    cases i with
    | zero => exact ⟨s, e, fun _ _ _ _ _ h => h⟩
    | succ i => simpa using ih i s (by simpa using e)
  | d t ih =>
    intro i s e
    cases i with
    | zero =>
      simp only [List.getElem?_cons_zero, Option.some.injEq] at e
      subst e
      exact ⟨_, rfl, fun _ _ _ _ _ _ => True.intro⟩
    | succ i => simpa using ih i s (by simpa using e)
  | t t ih =>
    intro i s e
    cases i with
    | zero =>
      simp only [List.getElem?_cons_zero, Option.some.injEq] at e
      subst e
      exact ⟨_, rfl, fun _ _ _ _ _ ⟨v, h1, h2, h3⟩ => ⟨v, h1, Py.mono h3 h2⟩⟩
    | succ i => simpa using ih i s (by simpa using e)
end
end GL
namespace L2
open PySem PySem.Spec PyProof.Rows
section
variable {X : Cx}
def rNeE : R2 := fun x y H Q => ∃ a b ks, x = .ref a ∧ y = .ref b ∧ H a = some (.dK ks) ∧ H b = some (.dK []) ∧ Q (.bl (!ks.isEmpty)) H
end
end L2
namespace GL
open PySem PySem.Spec PyProof.Rows L2
theorem fld_mem {f : Str} : ∀ ks : List Str, fIx f ks < ks.length → f ∈ ks := fun ks => by
  induction ks with
  | nil => intro h; exact absurd h (Nat.not_lt_zero _)
  | cons k ks ih =>
    intro h
    unfold fIx at h
    by_cases c : k = f
    · rw [c]; exact List.mem_cons_self
    · rw [if_neg c] at h
      exact List.mem_cons_of_mem _ (ih (by simpa using h))
section
variable {C : Addr} {K : Fg} {S S' H H' : Hp} {z z' : Car C} {dx : Addr} {pv sv : V} {kf kb : List (Key × V)}
theorem CarAt.some (c : CarAt K S H z dx pv sv kf kb) {q : Addr} (h : q ∈ z.fp) : ∃ o, H q = some o := by
  simp only [Car.fp, List.mem_cons, List.mem_nil_iff, or_false] at h
  rcases h with e | e | e | e | e <;> rw [e]
  · exact ⟨_, c.ob⟩
  · exact ⟨_, c.hw⟩
  · exact ⟨_, c.hs⟩
  · exact ⟨_, c.hf⟩
  · exact ⟨_, c.hb⟩
theorem CarAt.setS {l : List Int} (c : CarAt K S H z dx pv sv kf kb) : CarAt K S (upd H z.s (.lst (l.map V.int))) ({ z with said := l } : Car C) dx pv sv kf kb :=
  ⟨c.cl, c.na, by rw [upd_ne c.ne_s.symm]; exact c.ob, c.rg, c.rs, by show upd H z.s _ z.w = _; rw [upd_ne c.d1]; exact c.hw, upd_same, by show upd H z.s _ z.f = _; rw [upd_ne c.ne_sf.symm]; exact c.hf, c.rf, by show upd H z.s _ z.b = _; rw [upd_ne c.ne_sb.symm]; exact c.hb, c.rb, c.d1, c.d2⟩
end
section
variable {C : Addr} {K : Fg} {B S0 S1 S S' D : Hp} {σ : L2.St} {H H' : Hp} {F : Nat → List Addr} {G G' G1 G2 G3 G4 G5 : List Sl} {ta tb tc td te : TE} {i j l : Nat} {t u : TS} {E : Ends} {z z' : Car C} {dx : Addr} {pv sv : V} {kf kb : List (Key × V)}
end
end GL
namespace GL
open PySem PySem.Spec PyProof.Rows L2
structure MDef (K : Fg) (C : Addr) (m q : Str) (st : Stmt) (ps : List Str) : Prop where
  ex : ∃ (f : Addr) (fd : FuncData), Meth K C m f ∧ Fun K m q st f fd ∧ Binds K fd ps []
structure MCal (P : Program) (w : World) (K : Fg) (mg : Str → Option Value) (base : Heap) (k : Nat) (C : Addr) (m : Str) (ps : List Str) (sp : Sp) : Prop where
  ex : ∃ (f : Addr) (fd : FuncData), Meth K C m f ∧ FnOk P w K mg base CX0 k f fd ps sp ∧ Binds K fd ps []
structure ICal (P : Program) (w : World) (K : Fg) (mg : Str → Option Value) (base : Heap) (k : Nat) (C : Addr) (x : Str) (ps : List Str) (sp : Sp) : Prop where
  ex : ∃ (f : Addr) (fd : FuncData), Mk K C f ∧ mg x = some (.ref C) ∧ FnOk P w K mg base CX0 k f fd ps sp ∧ Binds K fd ps []
theorem pe_ical {X : Cx} {j k : Nat} {C : Addr} {x : Str} {ps : List Str} {sp : Sp} {e : Expr} {es : List Expr} {t : TA} {p pos : Pos} (c : ICal X.prog X.w X.K X.mg X.base k C x ps sp) (hr : Room j X.A) (hk : k + 1 ≤ j) (hg : Gl X x) (ha : PA X (e :: es) t)
    (hd : (x == ("__debug__" : Str)) = false := by decide) (hs : starEach (e :: es) X.env = (false, eval e X.env) :: starEach es X.env := by rfl) (hpl : (backTo pos (starEach es X.env)).any (·.1) = false := by rfl) :
    PE X (.Call (.Name x p) (e :: es) [] pos) (tMake C sp [] E0 t) := by
  obtain ⟨f, fd, a, b, c, d⟩ := c.ex
  exact pe_make a c (hr.mono hk) hg b d .nil pass0 ha hd hs hpl
def spO {ω α β : Type} [Own ω] [PyA α] [Py β] (K : Fg) (R : ω → α → β → ω → Prop) (pre : ω → α → Prop) : Sp := fun vs H Q _ => ∃ (S : Hp) (v0 : V) (ws : List V) (ps : List Addr) (z : ω) (a : α), vs = v0 :: ws ∧ Same S H ∧ Own.own K S H v0 ps z ∧
  (∀ p ∈ ps, S p = none ∧ ∃ o, H p = some o) ∧ PyA.rep K S ws a ∧ pre z a ∧ ∀ v S' H' ps' y z', R z a y z' → Same S S' → Same S' H' → (∀ p o, p ∉ ps → H p = some o → H' p = some o) → (∀ p o, p ∉ ps → H p = some o → S' p = S p) →
    (∀ p ∈ ps', S' p = none ∧ (∃ o, H' p = some o) ∧ (p ∈ ps ∨ H p = none)) → Own.own K S' H' v0 ps' z' → Py.rep K S' v y → Q v H'
section
variable {K : Fg} {B S0 S1 S S' D : Hp} {σ : L2.St} {H H' : Hp} {F : Nat → List Addr} {G G' G1 G2 : List Sl} {ta te : TE} {i j : Nat} {t : TA} {u : TS} {E : Ends} {Ex : XK}
variable {ω α β : Type} [Own ω] [PyA α] [Py β] {z z' : ω} {a : α}
theorem Kn.moved {S2 H2 : Hp} {v0 : V} {ps' : List Addr} (k1 : Kn K B S0 S1 σ H F G1) (hi1 : G1[i]? = some (.ow z)) (h1 : σ[i]? = some (some v0)) (s1 : Same S1 S2) (s2 : Same S2 H2) (hk : ∀ p o, p ∉ F i → H p = some o → H2 p = some o) (hc : ∀ p o, p ∉ F i → H p = some o → S2 p = S1 p)
    (hl : ∀ p ∈ ps', S2 p = none ∧ (∃ o, H2 p = some o) ∧ (p ∈ F i ∨ H p = none)) (ho : Own.own K S2 H2 v0 ps' z') : Kn K B S0 S2 σ H2 (upF F i ps') (G1.set i (.ow z')) := by
  have hB : ∀ p ∈ ps', B p = none := fun p hp => by
    rcases (hl p hp).2.2 with m | m
    · exact (k1.off i p m).2.1
    · exact (k1.free m).2.1
  have hN : ∀ p ∈ ps', ∀ j, j ≠ i → p ∉ F j := fun p hp j hj m => by
    rcases (hl p hp).2.2 with m' | m'
    · exact hj (k1.dj j i p m m')
    · exact (k1.free m').2.2 j m
  refine ⟨k1.s0.trans s1, s2, fun p o e => ?_, fun p o e => (hc p o (fun m => by rw [(k1.off i p m).2.1] at e; cases e) (k1.keep p o e)).trans (k1.clean p o e), fun j p hp => ?_, fun a b p ha hb => ?_, by rw [List.length_set]; exact k1.len, fun j s e => ?_⟩
  · exact hk p o (fun m => by rw [(k1.off i p m).2.1] at e; cases e) (k1.keep p o e)
  · by_cases c : j = i
    · rw [c, upF_self] at hp
      exact ⟨(hl p hp).1, hB p hp, (hl p hp).2.1⟩
    · rw [upF_ne c] at hp
      obtain ⟨a1, a2, o, a3⟩ := k1.off j p hp
      exact ⟨(hc p o (fun m => c (k1.dj j i p hp m)) a3).trans a1, a2, o, hk p o (fun m => c (k1.dj j i p hp m)) a3⟩
  · by_cases ca : a = i
    · by_cases cb : b = i
      · rw [ca, cb]
      · rw [ca, upF_self] at ha
        rw [upF_ne cb] at hb
        exact absurd hb (hN p ha b cb)
    · rw [upF_ne ca] at ha
      by_cases cb : b = i
      · rw [cb, upF_self] at hb
        exact absurd ha (hN p hb a ca)
      · rw [upF_ne cb] at hb
        exact k1.dj a b p ha hb
  · rcases set_get e with ⟨rfl, rfl⟩ | ⟨ne, e⟩
    · rw [upF_self]
      exact ⟨v0, h1, ho⟩
    · rw [upF_ne ne]
      have w := k1.sl j s e
      cases s with
      | no => exact True.intro
      | im y =>
        obtain ⟨u, b1, b2⟩ := w
        exact ⟨u, b1, Py.mono s1 b2⟩
      | ow y =>
        obtain ⟨u, b1, b2⟩ := w
        refine ⟨u, b1, Own.mono s1 (fun p hp => ?_) b2⟩
        obtain ⟨_, _, o, a3⟩ := k1.off j p hp
        rw [a3]
        exact hk p o (fun m => ne (k1.dj j i p hp m)) a3
end
section
variable {C : Addr} {K : Fg} {B S0 S1 S S' D : Hp} {σ : L2.St} {H H' : Hp} {F : Nat → List Addr} {G G' G1 G2 : List Sl} {ta te : TE} {i j : Nat} {t : TA} {u : TS} {E : Ends} {Ex : XK} {m : Str}
variable {α β : Type} [PyA α] [Py β] {z z1 : Car C} {a : α} {f : Car C → α → β × Car C} {R : Car C → α → β → Car C → Prop} {pre : Car C → α → Prop}
end
section
variable {P : Program} {w : World} {K : Fg} {mg : Str → Option Value} {base : Heap} {α β : Type} [Sls α] [Py β] {C : Addr}
end
section
variable {C : Addr} {K : Fg} {B S0 S1 S S' D : Hp} {σ : L2.St} {H H' : Hp} {F : Nat → List Addr} {G G' G1 G2 : List Sl} {ta te : TE} {i j : Nat} {t : TA} {u : TS} {E : Ends} {Ex : XK} {m : Str} {z : Car C}
end
structure Tw where
  w : Str
  r : List (Option Int)
  deriving DecidableEq
instance : Py Tw := ⟨fun K S v x => ∃ p, v = .ref p ∧ SqT K S p (.str x.w :: x.r.map oV), fun e ⟨p, h1, h2⟩ => ⟨p, h1, seqT e h2⟩⟩
def oD : Option Int → PyData
  | none => .none
  | some x => .int x
theorem dp_os {K : Fg} {H : Hp} : ∀ xs : List (Option Int), DpAll K H (xs.map oV) (xs.map oD)
  | [] => .nil
  | none :: xs => .cons .non (dp_os xs)
  | some x :: xs => .cons (.int x) (dp_os xs)
theorem lay_os : ∀ xs : List (Option Int), PyData.canLayAll0 (xs.map oD) = true
  | [] => rfl
  | none :: xs => by rw [List.map_cons, PyData.canLayAll0, lay_os xs]; rfl
  | some x :: xs => by rw [List.map_cons, PyData.canLayAll0, lay_os xs]; rfl
theorem dep_os : ∀ xs : List (Option Int), PyData.depthAll (xs.map oD) ≤ 0
  | [] => by rw [List.map_nil, PyData.depthAll]; exact Nat.le_refl _
  | none :: xs => by have := dep_os xs; rw [List.map_cons, PyData.depthAll]; simp [oD, PyData.depth]; omega
  | some x :: xs => by have := dep_os xs; rw [List.map_cons, PyData.depthAll]; simp [oD, PyData.depth]; omega
theorem eq_os : ∀ xs ys : List (Option Int), (PyData.eqvAll (xs.map oD) (ys.map oD) = true) ↔ xs = ys
  | [], [] => by simp [PyData.eqvAll]
  | [], _ :: _ => by simp [PyData.eqvAll]
  | _ :: _, [] => by simp [PyData.eqvAll]
  | x :: xs, y :: ys => by
    rw [List.map_cons, List.map_cons, PyData.eqvAll, Bool.and_eq_true, eq_os xs ys, List.cons.injEq]
    refine and_congr ?_ Iff.rfl
    cases x <;> cases y <;> simp [oD, PyData.eqv]
instance (priority := 600) : Dq Tw := ⟨fun x => .tuple (.str x.w :: x.r.map oD), fun x => (PyData.str x.w).canLay0 = true, fun e ⟨p, h1, h2⟩ => by rw [h1]; exact .tup (seqT e h2) (.cons (.str _) (dp_os _)),
  fun x h => by rw [PyData.canLay0, PyData.canLayAll0, h, lay_os]; rfl, 1, fun x => by have := dep_os x.r; rw [PyData.depth, PyData.depthAll]; simp [PyData.depth]; omega, fun x y => by
    obtain ⟨w, r⟩ := x
    obtain ⟨w', r'⟩ := y
    rw [PyData.eqv, PyData.eqvAll, Bool.and_eq_true, eq_os]
    simp [PyData.eqv]⟩
section
variable {K : Fg} {G G1 G2 : List Sl} {ta tb : TE}
end
end GL
namespace GL
open PySem PySem.Spec PyProof.Rows L2
def spCI (K : Fg) (C : Addr) : Sp := fun vs H Q _ => ∃ (S : Hp) (x dx : Addr) (pv sv : V) (g : Prog) (st : Stand) (h : Int), vs = [.ref x, pv, sv, .int h] ∧ H x = some (.ins C dx []) ∧ Py.rep K S pv g ∧ Py.rep K S sv st ∧
  ∀ (w s f b : Addr) (H' : Hp), H w = none → H s = none → H f = none → H b = none → CarAt K S H' (Car.mk (C := C) x w s f b g st h 0 [] [] 0 none false Dct.emp 0 Dct.emp) dx pv sv [] [] → (∀ p o, p ≠ x → H p = some o → H' p = some o) → Q .non H'
section
variable {P : Program} {w : World} {K : Fg} {mg : Str → Option Value} {base : Heap} {C x dx : Addr} {H : Hp} {σ : L2.St} {u : TS} {D : Ends} {tv : TE} {f : Str} {ks : List Str} {vs : List V}
end
section
variable {C : Addr} {K : Fg} {B S0 S1 S S' D : Hp} {σ : L2.St} {H H' : Hp} {F : Nat → List Addr} {G G' G1 G2 : List Sl} {i : Nat} {t : TA} {u : TS} {E : Ends} {Ex : XK}
end
end GL
namespace GL
open PySem PySem.Spec PyProof.Rows L2
def spCR {α : Type} [PyA α] (K : Fg) (C : Addr) (R : α → Car C → Prop) (pre : α → Prop) : Sp := fun vs H Q _ => ∃ (S : Hp) (a : α), Same S H ∧ PyA.rep K S vs a ∧ pre a ∧
  ∀ (z : Car C) S' H', R a z → Grow S H S' H' → (∀ p ∈ z.fp, H p = none ∧ S' p = none) → Own.own K S' H' (.ref z.a) z.fp z → Q (.ref z.a) H'
section
variable {P : Program} {w : World} {K : Fg} {mg : Str → Option Value} {base : Heap} {α : Type} [Sls α] {C : Addr}
end
section
variable {C : Addr} {K : Fg} {B S0 S1 S S' D : Hp} {σ : L2.St} {H H' : Hp} {F : Nat → List Addr} {G G' G1 G2 : List Sl} {i j : Nat} {t : TA} {u : TS} {E : Ends} {Ex Ex' : XK} {m : Str}
variable {α β : Type} [PyA α] [Py β] {a : α} {R : α → Car C → Prop} {pre' : α → Prop} {f : Car C → Unit → β × Car C} {pre : Car C → Unit → Prop} {z : Car C}
end
end GL
namespace GL
open PySem PySem.Spec PyProof.Rows L2
instance : Inhabited Dat := ⟨.non⟩
namespace Dat
def isT : Dat → Bool
  | .tup _ => true
  | _ => false
def isL : Dat → Bool
  | .lst _ => true
  | _ => false
def isS : Dat → Bool
  | .str _ => true
  | _ => false
def isBl : Dat → Bool
  | .bl _ => true
  | _ => false
def isI : Dat → Bool
  | .int _ => true
  | .bl _ => true
  | _ => false
def isInt : Dat → Bool
  | .int _ => true
  | _ => false
def toI : Dat → Int
  | .int i => i
  | _ => 0
def items : Dat → List Dat
  | .tup l => l
  | .lst l => l
  | _ => []
end Dat
theorem drep_ints {K : Fg} {S : Hp} : ∀ l : List Int, DRepL K S (l.map V.int) (l.map Dat.int)
  | [] => .nil
  | _ :: l => .cons (.int _) (drep_ints l)
section
variable {K : Fg} {G G1 : List Sl} {ta te : TE}
instance : ToD WRow := ⟨fun r => .tup (.str r.word :: r.nums.map .int), fun ⟨p, h1, h2⟩ => by
  rw [h1]
  exact .tup h2 (.cons (.str _) (drep_ints _))⟩
instance {α β : Type} [Py α] [Py β] [ToD α] [ToD β] : ToD (H2 α β) := ⟨fun x => .lst [ToD.dat x.a, ToD.dat x.b], fun ⟨p, a, b, h1, h2, h3, h4⟩ => by rw [h1]; exact .lst h2 (.cons (ToD.of h3) (.cons (ToD.of h4) .nil))⟩
end
def btwD (d : Dat) (lo hi : Int) : Bool := d.isInt && (decide (lo ≤ d.toI) && decide (d.toI ≤ hi))
def standD (n w m : Int) (d : Dat) : Bool := d.isT && (decide (d.items.length = 2) && (btwD (ix d.items 0) 0 m && ((ix d.items 1).isT && (decide (((ix d.items 1).items.length : Int) = n) && (ix d.items 1).items.all fun x => btwD x 0 (w - 1)))))
end GL
namespace GL
open PySem PySem.Spec PyProof.Rows L2
section
variable {α τ : Type}
def EvW [Py α] (K : Fg) (te : TE) (G : List Sl) (R : τ → Prop) (x : τ → α) (st : τ → List Sl) : Prop :=
  ∀ B S0 S σ H F, Kn K B S0 S σ H F G → ∀ Q : VK, (∀ w, R w → ∀ v S' H', Same S S' → Kn K B S0 S' σ H' F (st w) → Py.rep K S' v (x w) → Q v H') → te σ H Q
def EvAW [PyA α] (K : Fg) (ta : TA) (G : List Sl) (R : τ → Prop) (x : τ → α) (st : τ → List Sl) : Prop :=
  ∀ B S0 S σ H F, Kn K B S0 S σ H F G → ∀ Q : List V → Hp → Prop, (∀ w, R w → ∀ vs S' H', Same S S' → Kn K B S0 S' σ H' F (st w) → PyA.rep K S' vs (x w) → Q vs H') → ta σ H Q
def EvLsW [Py α] (K : Fg) (ta : TA) (G : List Sl) (R : τ → Prop) (x : τ → List α) (st : τ → List Sl) : Prop :=
  ∀ B S0 S σ H F, Kn K B S0 S σ H F G → ∀ Q : List V → Hp → Prop, (∀ w, R w → ∀ vs S' H', Same S S' → Kn K B S0 S' σ H' F (st w) → RepL K S' vs (x w) → Q vs H') → ta σ H Q
end
def EvTW {τ : Type} (K : Fg) (tt : TT) (G : List Sl) (R : τ → Prop) (b : τ → Bool) (st : τ → List Sl) : Prop :=
  ∀ B S0 S σ H F, Kn K B S0 S σ H F G → ∀ Q : Bool → Hp → Prop, (∀ w, R w → ∀ S' H', Same S S' → Kn K B S0 S' σ H' F (st w) → Q (b w) H') → tt σ H Q
def spQ {α β : Type} [PyA α] [Py β] (K : Fg) (R : α → β → Prop) (pre : α → Prop) : Sp := fun vs H Q _ => ∃ (S : Hp) (a : α), Same S H ∧ PyA.rep K S vs a ∧ pre a ∧ ∀ y v S' H', Grow S H S' H' → R a y → Py.rep K S' v y → Q v H'
section
variable {K : Fg} {B S0 S1 S S' D : Hp} {σ : L2.St} {H H' : Hp} {F : Nat → List Addr} {G G' G1 G2 G3 : List Sl} {ta tb tc te : TE} {i j : Nat} {t u w : TS} {E : Ends} {tt : TT} {g : TG} {X : XK}
variable {α β γ τ τ2 : Type}
section
variable [Py α] [Py β] {R : τ → Prop} {x : τ → α} {st : τ → List Sl} {y : α}
end
end
section
variable {P : Program} {w : World} {K : Fg} {mg : Str → Option Value} {base : Heap} {α β : Type} [Sls α] [Py β]
end
end GL
namespace GL
open PySem PySem.Spec PyProof.Rows L2
section
variable {K : Fg} {G : List Sl} {te : TE} {α τ : Type} [Py α]
theorem EvW.dat [ToD α] {R : τ → Prop} {x : τ → α} {st : τ → List Sl} (h : EvW K te G R x st) : EvW K te G R (fun w => ToD.dat (x w)) st := fun B S0 S σ H F k Q q => h B S0 S σ H F k Q fun w hw v S' H' e k' r => q w hw v S' H' e k' (ToD.of r)
end
end GL
namespace GL
open PySem PySem.Spec PyProof.Rows L2
section
variable {K : Fg} {G : List Sl} {te : TE} {τ : Type} {R : τ → Prop} {x : τ → Bool} {st : τ → List Sl} {c : Bool}
end
end GL
namespace GL
open PySem PySem.Spec PyProof.Rows L2
class NKey (α : Type) extends Py α where
  key : α → NKy
  inj : ∀ {x y : α}, key x = key y → x = y
  sh : List Bool
  shp : ∀ x : α, (key x).map side = sh
  at_ : ∀ {K : Fg} {S : Hp} {v : V} {x : α}, Py.rep K S v x → ∃ b, v = .ref b ∧ KeyV K S (key x) b
theorem KeyV.mono {K : Fg} {S S' : Hp} (e : Same S S') {k : NKy} {a : Addr} (h : KeyV K S k a) : KeyV K S' k a := by
  obtain ⟨vs, h1, h2⟩ := h
  refine ⟨vs, seqT e h1, ?_⟩
  clear h1
  revert vs
  induction k with
  | nil =>
    intro vs h2
    cases vs with
    | nil => exact True.intro
    | cons _ _ => exact h2.elim
  | cons k ks ih =>
    intro vs h2
    cases vs with
    | nil => cases k <;> exact h2.elim
    | cons v vs =>
      refine ⟨?_, ih vs h2.2⟩
      have h3 := h2.1
      cases k with
      | inl n => exact h3
      | inr l =>
        obtain ⟨b, e1, hb⟩ := h3
        exact ⟨b, e1, seqT e hb⟩
theorem tp_key {K : Fg} {S : Hp} {v : V} {x : Tp Int} (r : Py.rep K S v x) : ItV K S (.inr x.l) v := by
  obtain ⟨p, vs, rfl, hp, hr⟩ := r
  rw [hr.ints] at hp
  exact ⟨p, rfl, hp⟩
instance : NKey (Int × Int) where
  key x := [.inl x.1, .inl x.2]
  inj {x y} h := by
    simp only [List.cons.injEq, Sum.inl.injEq, and_true] at h
    exact Prod.ext h.1 h.2
  sh := [true, true]
  shp _ := rfl
  at_ r := by
    obtain ⟨p, a, b, rfl, hp, ra, rb⟩ := r
    exact ⟨p, rfl, _, hp, ra, rb, True.intro⟩
instance : NKey (Int × Tp Int) where
  key x := [.inl x.1, .inr x.2.l]
  inj {x y} h := by
    simp only [List.cons.injEq, Sum.inl.injEq, Sum.inr.injEq, and_true] at h
    obtain ⟨a, ⟨b⟩⟩ := x
    obtain ⟨c, ⟨d⟩⟩ := y
    obtain ⟨h1, h2⟩ := h
    dsimp only at h1 h2
    rw [h1, h2]
  sh := [true, false]
  shp _ := rfl
  at_ r := by
    obtain ⟨p, a, b, rfl, hp, ra, rb⟩ := r
    exact ⟨p, rfl, _, hp, ra, tp_key rb, True.intro⟩
instance : NKey (T4 Int Int (Tp Int) (Tp Int)) where
  key x := [.inl x.a, .inl x.b, .inr x.c.l, .inr x.d.l]
  inj {x y} h := by
    simp only [List.cons.injEq, Sum.inl.injEq, Sum.inr.injEq, and_true] at h
    obtain ⟨a, b, ⟨c⟩, ⟨d⟩⟩ := x
    obtain ⟨a', b', ⟨c'⟩, ⟨d'⟩⟩ := y
    obtain ⟨h1, h2, h3, h4⟩ := h
    dsimp only at h1 h2 h3 h4
    rw [h1, h2, h3, h4]
  sh := [true, true, false, false]
  shp _ := rfl
  at_ r := by
    obtain ⟨p, a, b, c, d, rfl, hp, ra, rb, rc, rd⟩ := r
    exact ⟨p, rfl, _, hp, ra, rb, tp_key rc, tp_key rd, True.intro⟩
structure DN (α β : Type) where
  l : List (α × β)
namespace DN
variable {α β : Type} [DecidableEq α]
def get? (d : DN α β) (k : α) : Option β := (d.l.find? fun e => decide (e.1 = k)).map (·.2)
def put (d : DN α β) (k : α) (x : β) : DN α β := ⟨if (d.get? k).isSome = true then d.l.map (fun e => if e.1 = k then (e.1, x) else e) else d.l ++ [(k, x)]⟩
def emp : DN α β := ⟨[]⟩
theorem put_len (d : DN α β) (k : α) (x : β) : (d.put k x).l.length ≤ d.l.length + 1 := by
  unfold put
  dsimp only
  split
  · rw [List.length_map]; omega
  · rw [List.length_append]; exact Nat.le_refl _
end DN
section
variable {α β : Type} [NKey α] [Py β] [DecidableEq α] {K : Fg} {S S' H H' : Hp}
def RepN (K : Fg) (S : Hp) : NL → List (α × β) → Prop
  | [], [] => True
  | e :: L, x :: xs => (e.1 = NKey.key x.1 ∧ Py.rep K S (.ref e.2.1) x.1 ∧ Py.rep K S e.2.2 x.2) ∧ RepN K S L xs
  | _, _ => False
theorem RepN.mono (e : Same S S') : ∀ {L : NL} {xs : List (α × β)}, RepN K S L xs → RepN K S' L xs
  | [], [], _ => True.intro
  | _ :: _, _ :: _, h => ⟨⟨h.1.1, Py.mono e h.1.2.1, Py.mono e h.1.2.2⟩, RepN.mono e h.2⟩
  | [], _ :: _, h => h.elim
  | _ :: _, [], h => h.elim
theorem RepN.len : ∀ {L : NL} {xs : List (α × β)}, RepN K S L xs → L.length = xs.length
  | [], [], _ => rfl
  | _ :: L, _ :: xs, h => by rw [List.length_cons, List.length_cons, RepN.len h.2]
  | [], _ :: _, h => h.elim
  | _ :: _, [], h => h.elim
theorem key_dec (x y : α) : decide ((NKey.key x : NKy) = NKey.key y) = decide (x = y) := by
  by_cases e : x = y
  · rw [e]; simp
  · rw [decide_eq_false e, decide_eq_false fun q => e (NKey.inj q)]
theorem RepN.val (k : α) : ∀ {L : NL} {xs : List (α × β)}, RepN K S L xs → match (xs.find? fun e => decide (e.1 = k)).map (·.2) with
    | some y => ∃ v, valN L (NKey.key k) = some v ∧ Py.rep K S v y
    | none => valN L (NKey.key k) = none
  | [], [], _ => rfl
  | e :: L, x :: xs, h => by
    have ed : decide (e.1 = NKey.key k) = decide (x.1 = k) := by rw [h.1.1, key_dec]
    unfold valN
    rw [List.find?_cons, List.find?_cons, ed]
    by_cases c : x.1 = k
    · rw [decide_eq_true c]
      exact ⟨e.2.2, rfl, h.1.2.2⟩
    · rw [decide_eq_false c]
      exact RepN.val k h.2
  | [], _ :: _, h => h.elim
  | _ :: _, [], h => h.elim
theorem RepN.isSome {d : DN α β} {L : NL} (h : RepN K S L d.l) (k : α) : (valN L (NKey.key k)).isSome = (d.get? k).isSome := by
  have := h.val k
  unfold DN.get?
  revert this
  cases (d.l.find? fun e => decide (e.1 = k)).map (·.2) with
  | none => intro q; rw [show valN L (NKey.key k) = none from q]; rfl
  | some y => intro ⟨v, q, _⟩; rw [q]; rfl
theorem RepN.put {d : DN α β} {L : NL} (h : RepN K S L d.l) {k : α} {y : β} {a : Addr} {v : V} (ra : Py.rep K S (.ref a) k) (rv : Py.rep K S v y) : RepN K S (putN L (NKey.key k) a v) (d.put k y).l := by
  unfold putN DN.put
  rw [h.isSome k]
  dsimp only
  by_cases c : (d.get? k).isSome = true
  · rw [if_pos c, if_pos c]
    clear c
    revert h
    generalize d.l = xs
    revert xs
    induction L with
    | nil =>
      intro xs h
      cases xs with
      | nil => exact True.intro
      | cons _ _ => exact h.elim
    | cons e L ih =>
      intro xs h
      cases xs with
      | nil => exact h.elim
      | cons x xs =>
        refine ⟨?_, ih xs h.2⟩
        by_cases q : x.1 = k
        · have q' : e.1 = NKey.key k := by rw [h.1.1, q]
          dsimp only
          rw [if_pos q, if_pos q']
          exact ⟨h.1.1, h.1.2.1, rv⟩
        · have q' : ¬ e.1 = NKey.key k := by rw [h.1.1]; exact fun z => q (NKey.inj z)
          dsimp only
          rw [if_neg q, if_neg q']
          exact h.1
  · rw [if_neg c, if_neg c]
    clear c
    revert h
    generalize d.l = xs
    revert xs
    induction L with
    | nil =>
      intro xs h
      cases xs with
      | nil => exact ⟨⟨rfl, ra, rv⟩, True.intro⟩
      | cons _ _ => exact h.elim
    | cons e L ih =>
      intro xs h
      cases xs with
      | nil => exact h.elim
      | cons x xs => exact ⟨h.1, ih xs h.2⟩
theorem RepN.all (e : Same S H) : ∀ {L : NL} {xs : List (α × β)}, RepN K S L xs → AllK K H (NKey.sh α) L
  | [], [], _ => fun _ h => nomatch h
  | e1 :: L, x :: xs, h => fun q hq => by
    rcases List.mem_cons.mp hq with rfl | hq
    · obtain ⟨b, eb, hk⟩ := NKey.at_ h.1.2.1
      cases eb
      exact ⟨by rw [h.1.1]; exact hk.mono e, by rw [h.1.1]; exact NKey.shp _⟩
    · exact RepN.all e h.2 q hq
  | [], _ :: _, h => h.elim
  | _ :: _, [], h => h.elim
instance : Own (DN α β) := ⟨fun K S H v ps x => ∃ p L, v = .ref p ∧ ps = [p] ∧ H p = some (ndH p L) ∧ RepN K S L x.l, fun {K S S' H H' v ps x} e a ⟨p, L, h1, h2, h3, h4⟩ =>
  ⟨p, L, h1, h2, by rw [a p (by rw [h2]; exact List.mem_singleton.mpr rfl)]; exact h3, h4.mono e⟩⟩
end
section
variable {α β : Type} [NKey α] [Py β] [DecidableEq α] {K : Fg} {B S0 S1 S S' D : Hp} {σ : L2.St} {H H' : Hp} {F : Nat → List Addr} {G G' G1 G2 G3 : List Sl} {ta tb te : TE} {i j : Nat} {t u : TS} {E : Ends} {d d' : DN α β} {k : α} {y : β}
theorem nat_at {p : Addr} {L : NL} {v : V} (e : Same S H) (hp : H p = some (ndH p L)) (hr : RepN (α := α) (β := β) K S L d.l) (rk : Py.rep K S v k) : ∃ b, v = .ref b ∧ NAt K H p L b (NKey.key k) := by
  obtain ⟨b, eb, hk⟩ := NKey.at_ rk
  exact ⟨b, eb, hp, by rw [NKey.shp]; exact hr.all e, hk.mono e⟩
def nix [Inhabited β] (d : DN α β) (k : α) : β := (d.get? k).getD default
end
theorem hu2_of {k : Nat} {A : Around} (hr : Room k A) : A.units + 2 < cLine := by
  have := hr.un
  omega
instance {α β : Type} [Py α] [Py β] [ToD α] [ToD β] : ToD (Sum α β) := ⟨fun x => match x with | .inl y => ToD.dat y | .inr y => ToD.dat y, fun {K S v x} h => by
  cases x with
  | inl y => exact ToD.of (x := y) h
  | inr y => exact ToD.of (x := y) h⟩
section
variable {K : Fg} {B S0 : Hp} {G G1 : List Sl} {tt : TT} {b : Bool} {t w u : TS} {E : Ends}
end
def ItGW {α τ : Type} [Py α] (K : Fg) (wi : TI) (G : List Sl) (R : τ → Prop) (xs : τ → List α) (st : τ → List Sl) : Prop :=
  ∀ B S0 S σ H F, Kn K B S0 S σ H F G → ∀ Q : It → Hp → Prop, (∀ w, R w → ∀ J S' H', Same S S' → Kn K B S0 S' σ H' F (st w) → Wk K J S' (xs w) → Q J H') → wi σ H Q
section
variable {α τ ρ : Type} [Py α] {K : Fg} {B S0 : Hp} {G : List Sl} {wi : TI} {R : τ → Prop} {xs : τ → List α} {st : τ → List Sl} {g : TG} {tb u : TS} {E : Ends} {te : TE}
end
end GL
namespace GL
open PySem PySem.W PySem.Calls PyProof.Rows PyProof.V PySem.Spec
section
variable {prog : Program} {w : World} {A : Around} {E : Value → Shared → Prop} {s : Shared} {it d : Addr} {i ep : Nat} {es : Array DictEntry}
theorem raw_iter {Q : Value → Shared → Prop} (hd : (d == sysModules) = false) (hm : DT.Raw s.heap d es ep)
    (hQ : Q (.ref s.heap.objs.size) { s with heap := s.heap.push { cls := .type "dict_keyiterator", data := .fields #[.ref d, .int 0 0, .int es.size 0, .int ep 0] } }) : wpAny (model prog w) A (pyIter (.ref d)) Q E s := by
  obtain ⟨o, ho, hc, hdat⟩ := id hm
  have hT : s.TypeIs (.ref d) "dict" := hm.typeIs
  refine wpAny_pyIter_slot hT PySem.F.slot_dict_iter (wpAny_call_entry PySem.F.slot_dict_iter hT PySem.F.entry_dict_iter ?_ (PySem.F.args_dict_iter_1 _))
  unfold Builtin.«dict.__iter__»
  refine wpAny_bind ?_
  unfold Builtin.Dict.dictSlotNone
  refine wpAny_bind (wpAny_notOrdered_dict hT ?_)
  show wpAny _ _ (pure (Value.ref d)) _ _ s
  refine wpAny_pure ?_
  show wpAny _ _ (Builtin.Dict.showsAll d >>= _) _ _ s
  unfold Builtin.Dict.showsAll
  rw [if_neg (by rw [hd]; exact Bool.false_ne_true)]
  refine wpAny_bind (wpAny_pure ?_)
  refine wpAny_bind (wpAny_dictEntries ho hdat ?_)
  refine wpAny_bind (wpAny_dictEpoch ho hdat ?_)
  refine wpAny_bind (wpAny_newObj_type (wpAny_pure ⟨_, rfl, "dict_keyiterator", _, ⟨_, Heap.get?_push_size _ rfl, rfl⟩, PySem.F.slot_dict_keyiterator_next.lookup, ?_⟩))
  simpa [rawInt] using hQ
theorem raw_item {Q : Option Value → Shared → Prop} (hit : s.heap.IsKeyIter it d i es.size ep) (hm : DT.Raw s.heap d es ep) (hlt' : i < es.size)
    (hQ : ∀ h', h'.IsKeyIter it d (i + 1) es.size ep → Heap.SameBut it s.heap h' → Q (some es[i].key) { s with heap := h' }) : wpAny (model prog w) A (pyNext (.ref it)) Q E s := by
  obtain ⟨o, ho, hc, hd⟩ := id hit
  obtain ⟨od, hod, hcd, hdd⟩ := id hm
  unfold pyNext
  refine wpAny_bind (wpAny_attempt (wpAny_callSpecial?_slot (name := Str.ofString "__next__") hit.typeIs PySem.F.slot_dict_keyiterator_next
    (wpAny_call_entry PySem.F.slot_dict_keyiterator_next hit.typeIs PySem.F.entry_dict_keyiterator_next ?_ (PySem.F.args_dict_keyiterator_next_1 _))))
  refine wpAny_bind (wpAny_pure ?_)
  refine wpAny_bind ?_
  refine wpAny_bind ?_
  first | refine wpAny_bind (wpAny_typeNameOfWhole_keyiter hit.typeIs (wpAny_pure ?_)) | refine wpAny_bind (wpAny_typeNameOf_keyiter hit.typeIs (wpAny_pure ?_))
  refine wpAny_bind (wpAny_fieldsOf ho hd ?_)
  have hown : Builtin.Dict_items.ownsTuple "dict_keyiterator" = false := by decide
  simp only [hown, Bool.false_eq_true, if_false]
  show wpAny _ _ (if (Value.ref d == Value.none) = true then _ else _) _ _ s
  rw [if_neg (show ¬ ((Value.ref d == Value.none) = true) from Bool.false_ne_true)]
  refine wpAny_bind (wpAny_pure ?_)
  refine wpAny_bind (wpAny_dictEntries hod hdd ?_)
  rw [if_neg (by simp)]
  refine wpAny_bind (wpAny_pure ?_)
  refine wpAny_bind (wpAny_dictEpoch hod hdd ?_)
  rw [if_neg (by simp)]
  refine wpAny_pure ?_
  simp only [show ¬ ((i : Int) < 0) from by omega, if_false, Int.toNat_natCast, Array.getElem?_eq_getElem hlt']
  refine wpAny_bind ?_
  first | refine wpAny_bind (wpAny_typeNameOfWhole_keyiter hit.typeIs (wpAny_pure ?_)) | refine wpAny_bind (wpAny_typeNameOf_keyiter hit.typeIs (wpAny_pure ?_))
  refine wpAny_bind (wpAny_isOneOf_keyiter hit.typeIs ?_)
  show wpAny _ _ (setField (.ref it) 1 (rawInt ((i : Int) + 1)) >>= _) _ _ s
  refine wpAny_bind (wpAny_setField ho hd (by simp) ?_)
  have hit' : (s.heap.update it (Obj.mapFields (·.setIfInBounds 1 (rawInt ((i : Int) + 1))))).IsKeyIter it d (i + 1) es.size ep :=
    ⟨_, Heap.get?_update_self _ ho (Obj.isFreed_of_fields (Obj.data_mapFields hd _)), (Obj.cls_mapFields ..).trans hc, by rw [Obj.data_mapFields hd]; simp [rawInt]⟩
  refine wpAny_bind (wpAny_holding ?_)
  refine wpAny_bind (wpAny_isOneOf_keyiter (s := { s with heap := s.heap.update it (Obj.mapFields (·.setIfInBounds 1 (rawInt ((i : Int) + 1)))) }) hit'.typeIs ?_)
  show wpAny _ _ (pure es[i].key) _ _ _
  exact wpAny_pure (wpAny_pure ⟨_, rfl, wpAny_pure (hQ _ hit' (Heap.SameBut.update ..))⟩)
theorem raw_end {Q : Option Value → Shared → Prop} (hh : A.handled = none) (hit : s.heap.IsKeyIter it d i es.size ep) (hm : DT.Raw s.heap d es ep) (hge : es.size ≤ i)
    (hQ : ∀ h', Heap.ExtBut it s.heap h' → Q none { s with heap := h' }) : wpAny (model prog w) A (pyNext (.ref it)) Q E s := by
  obtain ⟨o, ho, hc, hd⟩ := id hit
  obtain ⟨od, hod, hcd, hdd⟩ := id hm
  unfold pyNext
  refine wpAny_bind (wpAny_attempt (wpAny_callSpecial?_slot (name := Str.ofString "__next__") hit.typeIs PySem.F.slot_dict_keyiterator_next
    (wpAny_call_entry PySem.F.slot_dict_keyiterator_next hit.typeIs PySem.F.entry_dict_keyiterator_next ?_ (PySem.F.args_dict_keyiterator_next_1 _))))
  refine wpAny_bind (wpAny_pure ?_)
  refine wpAny_bind ?_
  refine wpAny_bind ?_
  first | refine wpAny_bind (wpAny_typeNameOfWhole_keyiter hit.typeIs (wpAny_pure ?_)) | refine wpAny_bind (wpAny_typeNameOf_keyiter hit.typeIs (wpAny_pure ?_))
  refine wpAny_bind (wpAny_fieldsOf ho hd ?_)
  have hown : Builtin.Dict_items.ownsTuple "dict_keyiterator" = false := by decide
  simp only [hown, Bool.false_eq_true, if_false]
  show wpAny _ _ (if (Value.ref d == Value.none) = true then _ else _) _ _ s
  rw [if_neg (show ¬ ((Value.ref d == Value.none) = true) from Bool.false_ne_true)]
  refine wpAny_bind (wpAny_pure ?_)
  refine wpAny_bind (wpAny_dictEntries hod hdd ?_)
  rw [if_neg (by simp)]
  refine wpAny_bind (wpAny_pure ?_)
  refine wpAny_bind (wpAny_dictEpoch hod hdd ?_)
  rw [if_neg (by simp)]
  refine wpAny_pure ?_
  simp only [show ¬ ((i : Int) < 0) from by omega, if_false, Int.toNat_natCast, Array.getElem?_eq_none hge]
  refine wpAny_bind ?_
  first | refine wpAny_bind (wpAny_typeNameOfWhole_keyiter hit.typeIs (wpAny_pure ?_)) | refine wpAny_bind (wpAny_typeNameOf_keyiter hit.typeIs (wpAny_pure ?_))
  show wpAny _ _ (setField (.ref it) 0 .none >>= _) _ _ s
  refine wpAny_bind (wpAny_setField ho hd (by simp) ?_)
  show wpAny _ _ (newExc (.type "StopIteration") [] >>= _) _ _ _
  refine wpAny_bind ?_
  simp only [newExc, newTuple]
  refine wpAny_bind (wpAny_newObj_type ?_ (by size_fits))
  refine wpAny_bind (m := firstArgMember _ _) (wpAny_of_eq (a := Value.none) (by first | rfl | (simp only [firstArgMember]; rfl)) ?_)
  refine wpAny_newObj_type ?_ (by size_fits)
  simp only [raiseNew]
  refine wpAny_bind (wpAny_handled ?_)
  rw [show A.in1.handled = none from hh]
  refine wpAny_bind (wpAny_pure (wpAny_throw ?_))
  refine wpAny_bind (wpAny_isInstance (T := "StopIteration") (b := true) ⟨_, Heap.get?_push_size _ rfl, rfl⟩ isSubtype_stop ?_)
  exact wpAny_pure (hQ _ (((Heap.SameBut.update ..).extBut.push _).push _))
theorem raw_walks (hh : A.handled = none) (I : Addr) (hne : d ≠ I) : Walks prog w A I [I, d] [I] es.size (fun i v => ∃ e, es[i]? = some e ∧ v = e.key) (fun i h => h.IsKeyIter I d i es.size ep ∧ DT.Raw h d es ep) where
  sub := fun b hb => by simp at hb; simp [hb]
  frame := fun _ _ _ st hk => ⟨st.1.at fun o e => hk I (by simp) o e, st.2.at' fun o e => hk d (by simp) o e⟩
  item := fun i s Q E hi st hQ => by
    refine raw_item st.1 st.2 hi fun h' hit' hs' => ?_
    exact hQ _ h' s.toks ⟨_, Array.getElem?_eq_getElem hi, rfl⟩ ⟨hit', st.2.at' fun o e => hs'.extBut d o hne e⟩ fun b o hb e => hs'.extBut b o (fun h => hb (by simp [h])) e
  done := fun s Q E st hQ => raw_end hh st.1 st.2 (Nat.le_refl _) fun h' he' => hQ h' s.toks fun b o hb e => he' b o (fun h => hb (by simp [h])) e
  self := fun _ _ _ _ st hQ => wpAny_pyIter_keyiter st.1 hQ
theorem raw_src (lo : (d == sysModules) = false) : KdlSrc prog w "dict" d d es.size (fun i v => ∃ e, es[i]? = some e ∧ v = e.key) (fun h => DT.Raw h d es ep) where
  type := fun _ hm => hm.typeIs
  there := fun _ hm => ⟨hm.lt, hm.lt⟩
  keep := fun _ _ hm hk => hm.at' fun o e => hk d (.inl rfl) o e
  notList := by decide
  notTuple := by decide
  hint := fun _ _ _ _ hm hq => kdl_hint_dict hm.typeIs hq
  iter := fun _ _ hh hm => ⟨_, _, (fun _ _ hq => raw_iter lo hm hq), raw_walks hh _ (Nat.ne_of_lt hm.lt), ⟨⟨_, Heap.get?_push_size _ rfl, rfl, rfl⟩, hm.push _⟩⟩
end
end GL
namespace GL
open PySem PySem.Spec PyProof.Rows L2
section
variable {X : Cx}
def rSortN (K : PySem.W.Frag) : List V → Hp → VK → Prop := fun vs H Q => ∃ (d : Addr) (L : NL), vs = [V.ref d] ∧ H d = some (ndH d L) ∧ (∀ e ∈ L, ∃ m n : Int, SqT K H e.2.1 [V.int m, V.int n]) ∧
  ∀ (ys : List V) (p : Addr), ys.Perm (L.map fun e => V.ref e.2.1) → ys.Pairwise (fun x y => ∀ m n m' n', TupI K H x [m, n] → TupI K H y [m', n'] → le2 (m, n) (m', n')) → H p = none → Q (.ref p) (upd H p (.lst ys))
theorem NR.refs : ∀ {L : NL} {xs : NV}, NR L xs → xs.map (fun x => Value.ref x.2.1) = L.map fun e => Value.ref e.2.1
  | _, _, .nil => rfl
  | _, _, .cons h t => by rw [List.map_cons, List.map_cons, h.2.1, NR.refs t]
theorem cr_sortN (hcalm : X.calm = true) : CallR X (.builtin "sorted") (rSortN X.K) := by
  intro pins s σ H vs us Q I r h
  obtain ⟨d, L, rfl, hd, hk, q⟩ := h
  rw [Vals.ref1 r]
  obtain ⟨⟨z, lo, hn, xs, rel, o, es, ep, ho, hx, hdt, hes⟩, _, _⟩ := (show ObjOk X.prog X.w H s.heap d (ndH d L) from I.hok d _ hd)
  have hraw : DT.Raw s.heap d es ep := ⟨o, ho, hx, hdt⟩
  have hl : es.size = L.length := by rw [← Array.length_toList, hes, List.length_map, ← Paired.length rel]
  have hkeys : es.toList.map (fun e => e.key) = L.map fun e => Value.ref e.2.1 := by
    rw [hes, List.map_map]
    exact NR.refs rel
  refine Calls.call_function_entry PyProof.Rows.kind_sorted PyProof.Rows.plain_sorted PyProof.Rows.entry_sorted (PyProof.Rows.args_sorted1 _) ?_
  unfold Builtin.«sorted»
  refine wpAny_bind (m := checkCount "sorted" 1 1 _) (wpAny_pure ?_)
  refine wpAny_bind (PySem.W.kdu_collect (A := X.A.in1) (raw_src lo) (I.ok.hd hcalm) hraw (by rw [hl]; exact z) fun h' tk acc hk' hacc => ?_)
  have hal : acc.toList = L.map fun e => Value.ref e.2.1 := by
    rw [← hkeys]
    apply List.ext_getElem?
    intro j
    rw [List.getElem?_map, Array.getElem?_toList, Array.getElem?_toList]
    cases e : acc[j]? with
    | none =>
      have : es[j]? = none := by
        rw [Array.getElem?_eq_none_iff] at e ⊢
        rw [← hacc.1]
        exact e
      rw [this]
      rfl
    | some v =>
      obtain ⟨en, e1, e2⟩ := hacc.2 j v e
      rw [e1, e2]
      rfl
  have hz : acc.toList.length ≤ sizeLine := by rw [hal, List.length_map]; exact z
  refine wpAny_bind (wpAny_newList ?_ hz)
  have hob : (h'.push (seqObj "list" acc.toList.toArray 0)).get? h'.objs.size = some (seqObj "list" acc.toList.toArray 0) := Heap.get?_push_size _ rfl
  have hkp : ∀ b u, s.heap.get? b = some u → (h'.push (seqObj "list" acc.toList.toArray 0)).get? b = some u := fun b u e => Heap.get?_push_of_some _ (hk' b u e)
  have two : ∀ t m n, SqT X.K H t [V.int m, V.int n] → L2.Two (h'.push (seqObj "list" acc.toList.toArray 0)) (.ref t) m n := fun t m n ht => by
    obtain ⟨o, c, u1, u2, g1, g2, g3⟩ := L2.two_of I ht
    exact ⟨t, o, c, u1, u2, rfl, hkp t o g1, g2, g3⟩
  refine wpAny_bind (wpAny_holding (L2.sort_two (s := { s with heap := h'.push (seqObj "list" acc.toList.toArray 0), toks := tk }) hob (fun v hv => ?_) hz fun out a1 a2 => ?_))
  · rw [hal] at hv
    obtain ⟨e, he, rfl⟩ := List.mem_map.mp hv
    obtain ⟨m, n, ht⟩ := hk e he
    exact ⟨m, n, two _ m n ht⟩
  obtain ⟨c, hc⟩ := PyProof.Rows.sortedHeap_at (vs := acc.toList) (out := out) hob
  have h3 : ∀ u ∈ out.toList, ∃ a, u = Value.ref a := fun u hu => by
    have := a1.mem_iff.mp hu
    rw [hal] at this
    obtain ⟨e, _, rfl⟩ := List.mem_map.mp this
    exact ⟨_, rfl⟩
  have hp : (out.toList.map bkV).Perm (L.map fun e => V.ref e.2.1) := by
    have e : (acc.toList.map bkV) = L.map fun e => V.ref e.2.1 := by
      rw [hal, List.map_map]
      rfl
    rw [← e]
    exact a1.map bkV
  have hlen : (out.toList.map bkV).length ≤ sizeLine := by
    rw [hp.length_eq, List.length_map]
    exact z
  have I1 : Inv X pins σ H { s with heap := h', toks := tk } := I.kept hk'
  refine wpAny_pure ⟨_, rfl, .ref h'.objs.size, upd H h'.objs.size (.lst (out.toList.map bkV)), I1.laid (t' := tk) (fun b u e => ?_) (Nat.le_refl _)
    (show ObjOk X.prog X.w _ _ _ (.lst (out.toList.map bkV)) from ⟨hlen, out.toList, c, bkV_vals h3, by rw [Array.toArray_toList]; exact hc⟩), rfl, q _ _ hp ?_ (I1.hok.fresh (Nat.le_refl _))⟩
  · have hb : b < h'.objs.size := Heap.lt_size e
    rw [PyProof.Rows.sortedHeap_old (Nat.ne_of_lt hb) (by rw [size_push']; exact Nat.lt_succ_of_lt hb)]
    exact Heap.get?_push_of_some _ e
  · rw [List.pairwise_map]
    refine List.Pairwise.imp_of_mem (fun {u v} hu hv hle m n m' n' hm hm' => ?_) a2
    obtain ⟨t, et, ht⟩ := hm
    obtain ⟨t', et', ht'⟩ := hm'
    have eu := bkV_ref et
    have ev := bkV_ref et'
    exact hle m n m' n' (by rw [eu]; exact two t m n ht) (by rw [ev]; exact two t' m' n' ht')
end
section
variable {K : Fg} {G : List Sl} {i : Nat} {β : Type} [Py β] {d : DN (Int × Int) β}
theorem RepN.keyL {S : Hp} : ∀ {L : NL} {xs : List ((Int × Int) × β)}, RepN K S L xs → RepL K S (L.map fun e => V.ref e.2.1) (xs.map (·.1))
  | [], [], _ => True.intro
  | _ :: _, _ :: _, h => ⟨h.1.2.1, RepN.keyL h.2⟩
  | [], _ :: _, h => h.elim
  | _ :: _, [], h => h.elim
theorem RepN.pairs {S H : Hp} (e : Same S H) : ∀ {L : NL} {xs : List ((Int × Int) × β)}, RepN K S L xs → ∀ q ∈ L, ∃ m n : Int, SqT K H q.2.1 [V.int m, V.int n]
  | [], [], _ => fun _ h => nomatch h
  | q1 :: L, x :: xs, h => fun q hq => by
    rcases List.mem_cons.mp hq with rfl | hq
    · obtain ⟨p, a, b, ep, hp, ra, rb⟩ := h.1.2.1
      cases ep
      rw [show a = V.int x.1.1 from ra, show b = V.int x.1.2 from rb] at hp
      exact ⟨_, _, seqT e hp⟩
    · exact RepN.pairs e h.2 q hq
  | [], _ :: _, h => h.elim
  | _ :: _, [], h => h.elim
end
end GL
namespace GL
open PySem PySem.Spec PyProof.Rows L2
def excW (cls : Value) (d : Option Addr) (a : Addr) (h : Heap) : Prop := ∃ ob fs, h.get? a = some ob ∧ Zc cls d ob ∧ ob.data = .fields fs
abbrev excH (cls : Value) (d : Option Addr) (a : Addr) : HO := .ext (excW cls d a)
section
variable {X : Cx} {pins : List (Addr × Obj)} {σ : L2.St} {H : Hp}
end
def noSlot (i : Nat) (D : Ends) : Ends := { nx := fun σ H => D.nx (σ.set i none) H, rt := D.rt, bk := fun σ H => D.bk (σ.set i none) H, ct := fun σ H => D.ct (σ.set i none) H }
def wKeep (K : Fg) (c : Value) (i : Nat) (ts : TS) (D : Ends) : WX := fun cls d σ H =>
  PySem.W.exmOne K cls c = some true ∧ ∀ a, H a = none → ts (noSlot i D) (σ.set i (some (.ref a))) (upd H a (excH cls d a))
def wKeep0 (K : Fg) (c : Value) (ts : TS) (D : Ends) : WX := fun cls d σ H => PySem.W.exmOne K cls c = some true ∧ ∀ a, H a = none → ts D σ (upd H a (excH cls d a))
section
variable {X : Cx} {x n : Str} {c : Value} {i : Nat} {body suite : List Stmt} {st0 : Stmt} {p1 p2 p3 : Pos} {tb : WX → TS} {ts : TS} {pins : List (Addr × Obj)} {D : Ends} {s' : Shared}
structure Landed (X : Cx) (pins : List (Addr × Obj)) (B : Heap) (σ : L2.St) (H : Hp) (cls : Value) (d : Option Addr) (a : Addr) (s : Shared) : Prop where
  fly : HandSPX.FlyingZ B (X.env :: X.outer) a (Zc cls d) s.heap
  inv : Inv X pins σ (upd H a (excH cls d a)) s
end
end GL
namespace GL
open PySem PySem.Spec PyProof.Rows L2
inductive XC
  | tooMany | noHouse | noLetter | noStep | noRow | noText | base
  deriving DecidableEq
def xY (a0 a1 a2 a3 a4 a5 a6 : Addr) : XC → Addr
  | .tooMany => a0
  | .noHouse => a1
  | .noLetter => a2
  | .noStep => a3
  | .noRow => a4
  | .noText => a5
  | .base => a6
structure XCls (K : Fg) (mg : Str → Option Value) (nm : Str) (C : Addr) : Prop where
  g : mg nm = some (.ref C)
  x : PySem.W.excIn K C [.type "ValueError", .type "Exception", .type "BaseException", .type "object"] "ValueError.__new__" = true
  kp : PySem.W.keepIn K (.ref C) = true
  ty : PySem.W.typeIn K (.ref C) = some (.type "type")
  hg : PySem.W.findIn K (.ref C) "__getattribute__" = some (some (.builtin "BaseException.__getattribute__"))
  hk : PySem.W.findIn K (.ref C) "__getattr__" = some none
  hs : PySem.W.subIn K (.ref C) (.type "BaseException") = some true
  hd : PySem.W.hasDictIn K C = true
  ha : PySem.W.findIn K (.ref C) "__class__" = some (some (.builtin "object.__class__"))
  hn : PySem.W.specialIn K (.builtin "object.__class__") "__get__" = some (some (.builtin "getset_descriptor.__get__"))
  ht : PySem.W.takesIn K (.builtin "object.__class__") = some true
  hm : PySem.W.mroIn K C (.type "object") = some true
structure XTst (K : Fg) (mg : Str → Option Value) (nm : Str) (C : Addr) : Prop where
  g : mg nm = some (.ref C)
  ty : PySem.W.typeIn K (.ref C) = some (.type "type")
  hs : PySem.W.subIn K (.ref C) (.type "BaseException") = some true
  hd : PySem.W.hasDictIn K C = true
  self : PySem.W.subIn K (.ref C) (.ref C) = some true
theorem XCls.c {K : Fg} {mg : Str → Option Value} {nm : Str} {C : Addr} (t : XCls K mg nm C) : ExcC K C := ⟨t.hg, t.hk, t.hs, t.hd, t.ha, t.hn, t.ht, t.hm⟩
structure Exc (Y : XC → Addr) where
  x : XC
section
variable {Y : XC → Addr}
instance : Py (Exc Y) := ⟨fun K S v e => ∃ p, v = .ref p ∧ S p = some (excH (.ref (Y e.x)) none p), fun s ⟨p, h1, h2⟩ => ⟨p, h1, s _ _ h2⟩⟩
end
def rIsX (K : Fg) : List V → Hp → VK → Prop := fun xs H Q => ∃ (a D : Addr) (c : V) (cv : Value) (b : Bool), xs = [.ref a, c] ∧ ExcC K D ∧ H a = some (excH (.ref D) none a) ∧ (∀ u, RelV c u → u = cv) ∧ PySem.W.kitOne K (.ref D) cv = some b ∧ Q (.bl b) H
def rIsXs (K : Fg) : List V → Hp → VK → Prop := fun xs H Q => ∃ (a D tp : Addr) (cs : List Addr) (b : Bool), xs = [.ref a, .ref tp] ∧ ExcC K D ∧ H a = some (excH (.ref D) none a) ∧ H tp = some (.tup (cs.map V.ref)) ∧ PySem.W.kitAny K (.ref D) (cs.map Value.ref) = some b ∧ Q (.bl b) H
section
variable {K : Fg} {B S0 S1 S S' : Hp} {σ : L2.St} {H H' : Hp} {F : Nat → List Addr} {G G' G1 G2 : List Sl} {ta te : TE} {t : TA} {u : TS} {D : Ends} {i j : Nat} {Y : XC → Addr} {α β : Type} {mg : Str → Option Value} {nm : Str}
def spX [PyA α] [Py β] (K : Fg) (Y : XC → Addr) (f : α → XC ⊕ β) (pre : α → Prop) : Sp := fun vs H Q E => ∃ (S : Hp) (a : α), Same S H ∧ PyA.rep K S vs a ∧ pre a ∧
  (∀ y, f a = .inr y → ∀ v S' H', Grow S H S' H' → Py.rep K S' v y → Q v H') ∧ ∀ e, f a = .inl e → ∀ S' H', Grow S H S' H' → E (.ref (Y e)) none H'
variable {W : WX}
def tRaiseX (C : Addr) (W : WX) : TS := fun _ σ H => W (.ref C) none σ H
theorem q_raise {C : Addr} (h : At K B S0 (W (.ref C) none) G) : At K B S0 (tSeq (tRaiseX C W) u D) G := h
end
structure CalX (P : Program) (w : World) (K : Fg) (mg : Str → Option Value) (base : Heap) (k : Nat) (x : Str) (ps : List Str) (sp : Sp) : Prop where
  ex : ∃ (f : Addr) (fd : FuncData), mg x = some (.ref f) ∧ FnOk P w K mg base (L2.CX P w) k f fd ps sp ∧ PySem.W.keepIn K (.ref f) = true ∧ Binds K fd ps []
theorem ps_raiseX {X : Cx} {W : WX} {nm m : Str} {j : Nat} {p p2 pos pos2 : Pos} {C : Addr} (x : XCls X.K X.mg nm C) (hc : X.calm = true) (tk : Takes X W) (hg : Gl X nm) (hdb : (nm == ("__debug__" : Str)) = false := by decide) :
    PS X (.Raise (some (.Call (.Name nm p) [.Constant (.str m) j p2] [] pos)) none pos2) (tRaiseX C W) := ps_raise hc tk (pmk_own PySem.F.excBase_ValueError x.x x.g x.kp (raises_own x.hs x.ty) hg hdb)
section
variable {P : Program} {w : World} {K : Fg} {mg : Str → Option Value} {base : Heap} {α β : Type} [Sls α] [Py β] {Y : XC → Addr}
end
end GL
namespace GL
open PySem PySem.Spec PyProof.Rows L2
def LetOk (g : Prog) (l : List Int) : Prop := ∀ x ∈ l, 0 ≤ x ∧ x < g.b
theorem with_ok {g : Prog} {s : Tp Int} {p v : Int} (hl : (s.l.length : Int) = g.a) (hn : ∀ x ∈ s.l, 0 ≤ x ∧ x < g.b) (hp : 0 ≤ p ∧ p < g.a) (hv : 0 ≤ v ∧ v < g.b) : ((withM s p v).l.length : Int) = g.a ∧ ∀ x ∈ (withM s p v).l, 0 ≤ x ∧ x < g.b := by
  rw [with_set (by omega)]
  refine ⟨by dsimp only; rw [List.length_set]; exact hl, fun x hx => ?_⟩
  rcases List.mem_or_eq_of_mem_set hx with h | h
  · exact hn x h
  · rw [h]; exact hv
theorem tick_cases (P : TickR → Prop) {g : Prog} {s : Stand} {letters : List Int} (h1 : rowAtM g s = none → P ⟨s, Str.ofString "ended", none, ⟨[]⟩, ⟨[]⟩⟩) (h2 : ∀ p, rowAtM g s = some (.take p) → letters = [] → P ⟨s, Str.ofString "waits", none, ⟨[]⟩, ⟨[]⟩⟩) (h3 : ∀ r, rowAtM g s = some r → (r.isTake = true → letters ≠ []) → P (doneM g s r letters)) : P (tickM g s letters) := by
  unfold tickM
  cases e : rowAtM g s with
  | none => exact h1 e
  | some r =>
    dsimp only
    split
    · rename_i hc
      obtain ⟨c1, c2⟩ := Bool.and_eq_true_iff.mp hc
      cases r <;> first | exact absurd c1 Bool.false_ne_true | exact h2 _ e (of_decide_eq_true c2)
    · rename_i hc
      exact h3 r e fun ht hl => hc (by rw [ht, hl]; rfl)
theorem tick_ok {g : Prog} {s : Stand} {letters : List Int} (hg : ProgOk g) (hs : StandOk g s) (hl : LetOk g letters) : StandOk g (tickM g s letters).a := by
  refine tick_cases (fun t => StandOk g t.a) (fun _ => hs) (fun _ _ _ => hs) fun r hr ht => ?_
  obtain ⟨h1, h2, h3, h4⟩ := tick_row hg hs hr
  have ha := hs.a0
  have hw := hg.w0
  have key : (0 ≤ dGo s.1 s.2 r ∧ dGo s.1 s.2 r ≤ g.c.l.length) ∧ ((dSh g.b s.2 letters r).l.length : Int) = g.a ∧ ∀ x ∈ (dSh g.b s.2 letters r).l, 0 ≤ x ∧ x < g.b := by
    cases r with
    | set p v => exact ⟨by dsimp only [dGo]; omega, with_ok hs.len hs.nums h4.1 h4.2⟩
    | add p q => exact ⟨by dsimp only [dGo]; omega, with_ok hs.len hs.nums h4.1 ⟨Int.emod_nonneg _ (by omega), Int.emod_lt_of_pos _ (by omega)⟩⟩
    | jump p q =>
      refine ⟨?_, hs.len, hs.nums⟩
      have := h4.2
      dsimp only [dGo]
      split <;> omega
    | say p => exact ⟨by dsimp only [dGo]; omega, hs.len, hs.nums⟩
    | take p =>
      refine ⟨by dsimp only [dGo]; omega, with_ok hs.len hs.nums h4 (hl _ (ix_mem (by decide) ?_))⟩
      have := List.length_pos_iff.mpr (ht rfl)
      omega
    | fin => exact absurd rfl h3
  exact ⟨key.1.1, key.1.2, key.2.1, key.2.2⟩
end GL
namespace GL
open PySem PySem.Spec PyProof.Rows L2
variable {C : Addr}
structure CarOk (z : Car C) : Prop where
  g : ProgOk z.g
  s : StandOk z.g z.st
  l : LetOk z.g z.wait
  wl : z.wait.length ≤ 100000
  sl : z.said.length ≤ 100000
def lksM (z : Car C) : List Int := match rowAtM z.g z.st with
  | none => []
  | some r => (readsM r).l.filter fun p => (z.absent.get? p).isSome
def wentM (z : Car C) (t : TickR) : Car C := { z with st := t.a, wait := if decide (t.b = Str.ofString "took") = true then z.wait.drop 1 else z.wait, said := if decide (t.b = Str.ofString "said") = true then z.said ++ [t.c.getD default] else z.said, fresh := t.e.l.foldl Dct.del z.fresh, absent := t.e.l.foldl Dct.del z.absent, done := z.done + 1 }
@[irreducible] def tickC (z : Car C) : Tw × Car C :=
  if z.still = true then (⟨Str.ofString "still", []⟩, z)
  else if lksM z ≠ [] then (⟨Str.ofString "lacks", [some (ix (lksM z) 0)]⟩, z)
  else (⟨(tickM z.g z.st z.wait).b, [(tickM z.g z.st z.wait).c]⟩, wentM z (tickM z.g z.st z.wait))
@[irreducible] def lfM (z : Car C) : List Int := (rng 0 z.g.a).filter fun p => !(z.fresh.get? p).isSome
@[irreducible] def copyC (z : Car C) (p : Int) : Car C := { z with fresh := z.fresh.put p true, made := z.made + 1 }
@[irreducible] def letterC (z : Car C) (v : Int) : Car C := { z with wait := z.wait ++ [v] }
@[irreducible] def stillC (z : Car C) : Car C := { z with still := true }
@[irreducible] def goesC (z : Car C) : Car C := { z with place := z.goal.getD default, goal := none, still := false }
@[irreducible] def lackC (z : Car C) (l : List Int) : Car C := { z with absent := l.foldl (fun d p => d.put p true) z.absent }
@[irreducible] def bringC (z : Car C) (p : Int) : Car C := { z with absent := z.absent.del p }
@[irreducible] def dropC (z : Car C) : Car C := { z with goal := none, still := false }
def BegR (z : Car C) (h : Int) (z' : Car C) : Prop := ∃ f', z' = { z with f := f', goal := some h, still := false, fresh := Dct.emp, made := 0 }
theorem put_len {d : Dct Bool} {k : Int} {x : Bool} : (d.put k x).l.length ≤ d.l.length + 1 := by
  unfold Dct.put
  dsimp only
  split
  · rw [List.length_map]; omega
  · rw [List.length_append]; exact Nat.le_refl _
theorem del_len {d : Dct Bool} {k : Int} : (d.del k).l.length ≤ d.l.length := List.length_filter_le _ _
end GL
namespace GL
open PySem PySem.Spec PyProof.Rows L2
variable {C : Addr}
def popBoth (z : Car C) (p : Int) : Car C := { z with fresh := z.fresh.del p, absent := z.absent.del p }
end GL
namespace GL
open PySem PySem.Spec PyProof.Rows L2
variable {C : Addr}
end GL
namespace GL
open PySem PySem.Spec PyProof.Rows L2
variable {C : Addr}
end GL
namespace GL
open PySem PySem.Spec PyProof.Rows L2
theorem rev_indU {α : Type} {P : List α → Prop} (h0 : P []) (hs : ∀ xs x, P xs → P (xs ++ [x])) (xs : List α) : P xs := by
  have h : ∀ ys : List α, P ys.reverse := fun ys => by
    induction ys with
    | nil => exact h0
    | cons y ys ih => rw [List.reverse_cons]; exact hs _ _ ih
  have := h xs.reverse
  rwa [List.reverse_reverse] at this
theorem ix_get {α : Type} [Inhabited α] {xs : List α} {i : Int} (h0 : 0 ≤ i) (h : i.toNat < xs.length) : ix xs i = xs[i.toNat] := by
  have e := ix_at (xs := xs) h0 (by omega)
  rw [List.getElem?_eq_getElem h] at e
  exact (Option.some.inj e).symm
abbrev Lets := List (Int × Int)
structure LetsOk (g : Prog) (l : Lets) : Prop where
  srt : (l.map (·.1)).Pairwise (· ≤ ·)
  nums : ∀ x ∈ l, 0 ≤ x.2 ∧ x.2 < g.b
  len : l.length ≤ 1000
def availM (l : Lets) (now : Int) : List Int := (l.filter (fun x => decide (x.1 ≤ now))).map (·.2)
abbrev Said := List (Int × Option Int)
abbrev Tou := List (Tp Int × Tp Int)
abbrev RunS := Int × Stand × Said × Tou
@[irreducible] def runStep (g : Prog) (l : Lets) (st : RunS) (now : Int) : RunS :=
  let t := tickM g st.2.1 ((availM l now).drop st.1.toNat)
  (st.1 + (if decide (t.b = Str.ofString "took") = true then 1 else 0), t.a, if decide (t.b = Str.ofString "said") = true then st.2.2.1 ++ [(now, t.c)] else st.2.2.1, st.2.2.2 ++ [(t.d, t.e)])
@[irreducible] def runF (g : Prog) (s : Stand) (l : Lets) (xs : List Int) : RunS := xs.foldl (runStep g l) (0, s, [], [])
@[irreducible] def runM (g : Prog) (s : Stand) (l : Lets) (many : Int) : T3 Stand Said Tou := ⟨(runF g s l (rng 0 many)).2.1, (runF g s l (rng 0 many)).2.2.1, (runF g s l (rng 0 many)).2.2.2⟩
theorem run_nil (g : Prog) (s : Stand) (l : Lets) : runF g s l [] = (0, s, [], []) := by unfold runF; rfl
theorem run_snoc (g : Prog) (s : Stand) (l : Lets) (xs : List Int) (n : Int) : runF g s l (xs ++ [n]) = runStep g l (runF g s l xs) n := by
  unfold runF; rw [List.foldl_append]; rfl
theorem avail_ok {g : Prog} {l : Lets} (h : LetsOk g l) (now : Int) (u : Nat) : LetOk g ((availM l now).drop u) ∧ ((availM l now).drop u).length ≤ 100000 := by
  refine ⟨fun x hx => ?_, ?_⟩
  · obtain ⟨y, hy, e⟩ := List.mem_map.mp (List.mem_of_mem_drop hx)
    rw [← e]
    exact h.nums y (List.mem_filter.mp hy).1
  · have := h.len
    have := List.length_filter_le (fun x : Int × Int => decide (x.1 ≤ now)) l
    rw [List.length_drop]
    unfold availM
    rw [List.length_map]
    omega
theorem runStep_stand {g : Prog} {l : Lets} {st : RunS} {now : Int} : (runStep g l st now).2.1 = (tickM g st.2.1 ((availM l now).drop st.1.toNat)).a := by unfold runStep; rfl
theorem runStep_used {g : Prog} {l : Lets} {st : RunS} {now : Int} : (runStep g l st now).1 = st.1 + (if decide ((tickM g st.2.1 ((availM l now).drop st.1.toNat)).b = Str.ofString "took") = true then 1 else 0) := by unfold runStep; rfl
theorem run_ok {g : Prog} {s : Stand} {l : Lets} (hg : ProgOk g) (hs : StandOk g s) (hl : LetsOk g l) (xs : List Int) : StandOk g (runF g s l xs).2.1 ∧ 0 ≤ (runF g s l xs).1 := by
  refine rev_indU (P := fun xs => StandOk g (runF g s l xs).2.1 ∧ 0 ≤ (runF g s l xs).1) ?_ (fun xs n ih => ?_) xs
  · rw [run_nil]; exact ⟨hs, Int.le_refl _⟩
  · rw [run_snoc, runStep_stand, runStep_used]
    refine ⟨tick_ok hg ih.1 (avail_ok hl n _).1, ?_⟩
    have := ih.2
    split <;> omega
theorem run_law {g : Prog} {s : Stand} {l : Lets} {pre : List Int} {now used : Int} {stand : Stand} {said : Said} {touched : Tou} {t : TickR} (hI : (used, stand, said, touched) = runF g s l pre) (ht : t = tickM g stand ((availM l now).drop used.toNat)) :
    (used + (if decide (t.b = Str.ofString "took") = true then 1 else 0), t.a, (if decide (t.b = Str.ofString "said") = true then said ++ [(now, t.c)] else said), touched ++ [(t.d, t.e)]) = runF g s l (pre ++ [now]) := by
  rw [run_snoc, ← hI, ht]
  unfold runStep
  rfl
structure WgI (l : Lets) (used now : Int) (st : List Int × Int) : Prop where
  c0 : 0 ≤ st.2
  c1 : st.2 ≤ l.length
  u1 : used ≤ st.2
  w : st.1 = ((l.take st.2.toNat).map (·.2)).drop used.toNat
  le : ∀ x ∈ l.take st.2.toNat, x.1 ≤ now
theorem WgI.step {l : Lets} {used now : Int} {wt : List Int} {come : Int} (hu : 0 ≤ used) (h : WgI l used now (wt, come)) (hc : come < l.length) (hn : (ix l come).1 ≤ now) : WgI l used now (wt ++ [(ix l come).2], come + 1) := by
  obtain ⟨c0, c1, u1, w, le⟩ := h
  dsimp only at *
  have hlt : come.toNat < l.length := by omega
  have e : (come + 1).toNat = come.toNat + 1 := by omega
  have ei : ix l come = l[come.toNat] := ix_get c0 hlt
  have et : l.take (come.toNat + 1) = l.take come.toNat ++ [ix l come] := by rw [ei, List.take_succ_eq_append_getElem hlt]
  refine ⟨by dsimp only; omega, by dsimp only; omega, by dsimp only; omega, ?_, ?_⟩
  · dsimp only
    rw [e, et, List.map_append, List.drop_append_of_le_length (by rw [List.length_map, List.length_take]; omega), ← w]
    rfl
  · dsimp only
    rw [e, et]
    intro x hx
    rcases List.mem_append.mp hx with q | q
    · exact le x q
    · rw [List.mem_singleton.mp q]; exact hn
theorem filter_take {l : Lets} {now : Int} {k : Nat} (hs : (l.map (·.1)).Pairwise (· ≤ ·)) (h1 : ∀ x ∈ l.take k, x.1 ≤ now) (h2 : ∀ x, l[k]? = some x → now < x.1) : l.filter (fun x => decide (x.1 ≤ now)) = l.take k := by
  induction l generalizing k with
  | nil => simp
  | cons y l ih =>
    rw [List.map_cons, List.pairwise_cons] at hs
    cases k with
    | zero =>
      have h := h2 y rfl
      rw [List.take_zero, List.filter_eq_nil_iff]
      intro x hx
      rcases List.mem_cons.mp hx with e | e
      · rw [e]; simp; omega
      · have := hs.1 x.1 (List.mem_map.mpr ⟨x, e, rfl⟩)
        simp
        omega
    | succ k =>
      have h := h1 y (by simp)
      rw [List.take_succ_cons, List.filter_cons, if_pos (by simp; exact h), ih hs.2 (fun x hx => h1 x (by rw [List.take_succ_cons]; exact List.mem_cons_of_mem _ hx)) (fun x hx => h2 x (by simpa using hx))]
theorem WgI.done {l : Lets} {used now : Int} {wt : List Int} {come : Int} (hs : (l.map (·.1)).Pairwise (· ≤ ·)) (h : WgI l used now (wt, come)) (hc : (decide (come < (l.length : Int)) && decide ((ix l come).1 ≤ now)) = false) : wt = (availM l now).drop used.toNat ∧ l.take come.toNat = l.filter (fun x => decide (x.1 ≤ now)) := by
  obtain ⟨c0, c1, u1, w, le⟩ := h
  dsimp only at *
  have e := filter_take (k := come.toNat) hs le fun x hx => by
    obtain ⟨hlt, e⟩ := List.getElem?_eq_some_iff.mp hx
    have ei : ix l come = l[come.toNat] := ix_get c0 hlt
    rw [ei, e] at hc
    rcases Bool.and_eq_false_iff.mp hc with q | q
    · have := of_decide_eq_false q; omega
    · have := of_decide_eq_false q; omega
  exact ⟨by unfold availM; rw [e]; exact w, e.symm⟩
structure GonI (g : Prog) (s : Stand) (l : Lets) (pre : List Int) (st : List Int × Said × Tou × Int × Stand) : Prop where
  said : st.2.1 = (runF g s l pre).2.2.1
  fnd : st.2.2.1 = (runF g s l pre).2.2.2
  stand : st.2.2.2.2 = (runF g s l pre).2.1
  wg : ∀ now, (∀ p ∈ pre, p < now) → WgI l (runF g s l pre).1 now (st.1, st.2.2.2.1)
theorem GonI.start (g : Prog) (s : Stand) (l : Lets) : GonI g s l [] ([], [], [], 0, s) :=
  ⟨by rw [run_nil], by rw [run_nil], by rw [run_nil], fun now _ => by rw [run_nil]; exact ⟨Int.le_refl _, by dsimp only; omega, Int.le_refl _, by simp, by simp⟩⟩
theorem took_ne {g : Prog} {s : Stand} {l : List Int} (h : decide ((tickM g s l).b = Str.ofString "took") = true) : l ≠ [] := by
  revert h
  refine tick_cases (fun t => decide (t.b = Str.ofString "took") = true → l ≠ []) (fun _ h => ?_) (fun _ _ _ h => ?_) (fun r _ ht h => ?_)
  · exact absurd (of_decide_eq_true h) (show ¬ Str.ofString "ended" = Str.ofString "took" by decide +kernel)
  · exact absurd (of_decide_eq_true h) (show ¬ Str.ofString "waits" = Str.ofString "took" by decide +kernel)
  · have h' : dWo r = Str.ofString "took" := of_decide_eq_true h
    cases r with
    | take p => exact ht rfl
    | say p => exact absurd h' (show ¬ Str.ofString "said" = Str.ofString "took" by decide +kernel)
    | _ => exact absurd h' (show ¬ Str.ofString "did" = Str.ofString "took" by decide +kernel)
theorem GonI.step {g : Prog} {s : Stand} {l : Lets} {pre post : List Int} {now many : Int} {wt0 wt : List Int} {said : Said} {fnd : Tou} {come0 come : Int} {stand : Stand} {t : TickR} (hg : ProgOk g) (hs : StandOk g s) (hl : LetsOk g l) (ex : pre ++ now :: post = rng 0 many)
    (h : GonI g s l pre (wt0, said, fnd, come0, stand)) (hw : WgI l (runF g s l pre).1 now (wt, come)) (he : wt = (availM l now).drop (runF g s l pre).1.toNat) (ht : t = tickM g stand wt) :
    GonI g s l (pre ++ [now]) ((if decide (t.b = Str.ofString "took") = true then wt.drop 1 else wt), (if decide (t.b = Str.ofString "said") = true then said ++ [(now, t.c)] else said), fnd ++ [(t.d, t.e)], come, t.a) := by
  obtain ⟨h1, h2, h3, h4⟩ := h
  dsimp only at h1 h2 h3
  have hu := (run_ok hg hs hl pre).2
  have hr := run_law (s := s) (pre := pre) (now := now) (t := t) (used := (runF g s l pre).1) (stand := stand) (said := said) (touched := fnd) (by rw [h1, h2, h3]) (by rw [ht, he])
  refine ⟨by rw [← hr], by rw [← hr], by rw [← hr], fun now' hn' => ?_⟩
  have hn : now < now' := hn' now (by simp)
  rw [← hr]
  obtain ⟨c0, c1, u1, w, le⟩ := hw
  dsimp only at c0 c1 u1 w le ⊢
  have lt : ((l.take come.toNat).map (fun x : Int × Int => x.2)).length = come.toNat := by rw [List.length_map, List.length_take]; omega
  by_cases hk : decide (t.b = Str.ofString "took") = true
  · have hne := took_ne (by rw [← ht]; exact hk)
    have : (runF g s l pre).1.toNat < come.toNat := by
      have := List.length_pos_iff.mpr hne
      rw [w, List.length_drop, lt] at this
      omega
    rw [if_pos hk, if_pos hk]
    refine ⟨c0, c1, by dsimp only; omega, ?_, fun x hx => by have := le x hx; omega⟩
    dsimp only
    rw [w, List.drop_drop]
    congr 1
    omega
  · rw [if_neg hk, if_neg hk]
    exact ⟨c0, c1, by dsimp only; omega, by dsimp only; rw [Int.add_zero]; exact w, fun x hx => by have := le x hx; omega⟩
end GL
namespace GL
open PySem PySem.Spec PyProof.Rows L2
abbrev RS := List (Int × Tp Int) × Dct Int × Int × List Int
abbrev RR := T3 (List (Int × Tp Int)) Int (Tp Int)
def rdC (most sl : Int) (s : RS) : Bool := !decide (s.2.2.2 = []) && (decide ((s.1.length : Int) < most) && (decide (s.1 = []) || decide (sl < (s.2.2.2.length : Int))))
def rdCop (b tick : Int) (c : Dct Int) (ps : Int × Int) : Dct Int := c.put ps.2 (tick + ps.1 / b)
def rdDue (n : Int) (trace : List (Tp Int)) (copied : Dct Int) (tick : Int) : List Int := ((rng 0 n).filter fun x => ((writtenIn trace 0 tick).get? x).isSome && decide (dix copied x ≤ dix (writtenIn trace 0 tick) x)).map fun x => x
def rdN (n : Int) (trace : List (Tp Int)) (b : Int) (s : RS) : RS :=
  (s.1 ++ [(s.2.2.1, ⟨s.2.2.2⟩)], (enumI s.2.2.2).foldl (rdCop b s.2.2.1) s.2.1, s.2.2.1 + ((s.2.2.2.length : Int) + b - 1) / b, rdDue n trace ((enumI s.2.2.2).foldl (rdCop b s.2.2.1) s.2.1) (s.2.2.1 + ((s.2.2.2.length : Int) + b - 1) / b))
def rdB (n : Int) (trace : List (Tp Int)) (b : Int) (s : RS) : Fl RS RR := .nx (rdN n trace b s)
def rdK (s : RS) : RR := ⟨s.1, s.2.2.1, ⟨s.2.2.2⟩⟩
@[irreducible] def roundsM (n : Int) (trace : List (Tp Int)) (b sl most : Int) : RR := whl (rdC most sl) (rdB n trace b) rdK most.toNat ([], Dct.emp, 0, rng 0 n)
structure RdI (n b most : Int) (s : RS) : Prop where
  due : ∀ x ∈ s.2.2.2, 0 ≤ x ∧ x < n
  len : (s.2.2.2.length : Int) ≤ n
  cov : ∀ x, 0 ≤ x → x < n → (s.2.1.get? x).isSome = true ∨ x ∈ s.2.2.2
  cok : s.2.1.Ok 1000
  t0 : 0 ≤ s.2.2.1
  t1 : s.2.2.1 ≤ 2000 * (s.1.length : Int)
structure RdP (n : Int) (trace : List (Tp Int)) (b most : Int) : Prop where
  n0 : 0 ≤ n
  n1 : n ≤ 1000
  tr : TrOk trace
  b0 : 1 ≤ b
  b1 : b ≤ 1000
  m0 : 0 ≤ most
  m1 : most ≤ 1000
theorem rdC_lt {most sl : Int} {s : RS} (h : rdC most sl s = true) : (s.1.length : Int) < most := by
  unfold rdC at h
  simp only [Bool.and_eq_true, decide_eq_true_eq] at h
  exact h.2.1
theorem cop_ok {b tick : Int} {l : List (Int × Int)} (hl : ∀ p ∈ l, 0 ≤ p.2 ∧ p.2 < 1000) : ∀ {d : Dct Int}, d.Ok 1000 → (l.foldl (rdCop b tick) d).Ok 1000 := by
  induction l with
  | nil => intro d h; exact h
  | cons p l ih =>
    intro d h
    exact ih (fun q hq => hl q (List.mem_cons_of_mem _ hq)) (h.put _ (hl p List.mem_cons_self))
theorem cop_keep {b tick x : Int} {l : List (Int × Int)} : ∀ {d : Dct Int}, (d.get? x).isSome = true → ((l.foldl (rdCop b tick) d).get? x).isSome = true := by
  induction l with
  | nil => intro d h; exact h
  | cons p l ih =>
    intro d h
    refine ih ?_
    unfold rdCop
    rw [Dct.get?_put]
    split
    · rfl
    · exact h
theorem cop_has {b tick x : Int} {l : List (Int × Int)} : ∀ {d : Dct Int}, x ∈ l.map (·.2) → ((l.foldl (rdCop b tick) d).get? x).isSome = true := by
  induction l with
  | nil => intro d h; simp at h
  | cons p l ih =>
    intro d h
    rw [List.map_cons, List.mem_cons] at h
    rcases h with h | h
    · refine cop_keep (d := rdCop b tick d p) ?_
      unfold rdCop
      rw [Dct.get?_put, if_pos h]
      rfl
    · exact ih h
theorem enumI_snd {α : Type} (xs : List α) : (enumI xs).map (·.2) = xs := by
  unfold enumI
  rw [List.map_map]
  show List.map (fun p => p.1) xs.zipIdx = xs
  exact List.zipIdx_map_fst 0 xs
theorem enumI_fst {α : Type} {xs : List α} {p : Int × α} (h : p ∈ enumI xs) : p.2 ∈ xs := List.mem_of_getElem? (mem_enumI.mp h).2
theorem RdI.copOk {n b most : Int} {s : RS} (I : RdI n b most s) (hn : n ≤ 1000) {pre : List (Int × Int)} (h : ∀ p ∈ pre, p ∈ enumI s.2.2.2) : (pre.foldl (rdCop b s.2.2.1) s.2.1).Ok 1000 :=
  cop_ok (fun p hp => by have := I.due p.2 (enumI_fst (h p hp)); omega) I.cok
theorem RdI.covered {n b most : Int} {s : RS} (I : RdI n b most s) {x : Int} (h0 : 0 ≤ x) (h1 : x < n) : (((enumI s.2.2.2).foldl (rdCop b s.2.2.1) s.2.1).get? x).isSome = true := by
  rcases I.cov x h0 h1 with h | h
  · exact cop_keep h
  · exact cop_has (by rw [enumI_snd]; exact h)
theorem due_mem {n tick : Int} {trace : List (Tp Int)} {c : Dct Int} {x : Int} (h : x ∈ rdDue n trace c tick) : 0 ≤ x ∧ x < n := by
  unfold rdDue at h
  rw [List.map_id'] at h
  exact mem_rng.mp (List.mem_filter.mp h).1
theorem div_bound {l b : Int} (hb : 1 ≤ b) (hl : 0 ≤ l) : 0 ≤ (l + b - 1) / b ∧ (l + b - 1) / b ≤ l := by
  refine ⟨Int.ediv_nonneg (by omega) (by omega), ?_⟩
  have h : (l + b - 1) / b < l + 1 := by
    apply Int.ediv_lt_of_lt_mul (by omega)
    have : l * b ≥ l := by
      have := Int.mul_le_mul_of_nonneg_left hb hl
      omega
    rw [Int.add_mul]
    omega
  omega
theorem RdI.next {n b most : Int} {trace : List (Tp Int)} {s : RS} (P : RdP n trace b most) (I : RdI n b most s) : RdI n b most (rdN n trace b s) := by
  have hb := div_bound (l := (s.2.2.2.length : Int)) P.b0 (by omega)
  refine ⟨fun x hx => due_mem hx, ?_, fun x h0 h1 => .inl (I.covered h0 h1), I.copOk P.n1 fun _ h => h, ?_, ?_⟩
  · show ((rdDue n trace _ _).length : Int) ≤ n
    unfold rdDue
    rw [List.length_map]
    have h1 := List.length_filter_le (fun x => ((writtenIn trace 0 (s.2.2.1 + ((s.2.2.2.length : Int) + b - 1) / b)).get? x).isSome && decide (dix ((enumI s.2.2.2).foldl (rdCop b s.2.2.1) s.2.1) x ≤ dix (writtenIn trace 0 (s.2.2.1 + ((s.2.2.2.length : Int) + b - 1) / b)) x)) (rng 0 n)
    rw [len_rng] at h1
    have := P.n0
    omega
  · show 0 ≤ s.2.2.1 + ((s.2.2.2.length : Int) + b - 1) / b
    have := I.t0
    omega
  · show s.2.2.1 + ((s.2.2.2.length : Int) + b - 1) / b ≤ 2000 * ((s.1 ++ [(s.2.2.1, (⟨s.2.2.2⟩ : Tp Int))]).length : Int)
    rw [List.length_append]
    have h1 := I.t1
    have h2 := I.len
    have h3 := P.n1
    simp only [List.length_singleton]
    omega
theorem RdI.start {n b most : Int} (hn : 0 ≤ n) : RdI n b most ([], Dct.emp, 0, rng 0 n) :=
  ⟨fun x hx => mem_rng.mp hx, by show ((rng 0 n).length : Int) ≤ n; rw [len_rng]; omega, fun x h0 h1 => .inr (mem_rng.mpr ⟨h0, h1⟩), Dct.Ok.emp, Int.le_refl _, by show (0 : Int) ≤ 2000 * (0 : Int); omega⟩
end GL
namespace GL
open PySem PySem.Spec PyProof.Rows L2
def lastW (trace : List (Tp Int)) (stop s : Int) : Int := (lastN trace stop.toNat s).getD (-1)
@[irreducible] def lastsM (n : Int) (trace : List (Tp Int)) (stop : Int) : List Int := (rng 0 n).map fun x => lastW trace stop x
@[irreducible] def lackM (lasts : List Int) (b stop t : Int) : Int := ((lasts.filter fun x => decide (t ≤ x)).length : Int) - b * (stop - t - 1)
@[irreducible] def barsM (n : Int) (trace : List (Tp Int)) (b s stop t : Int) : Bool := if -1 ≤ t ∧ t < stop then decide (s < lackM (lastsM n trace stop) b stop t) else false
def lawLastS (trail : List (Tp Int)) (sheet : Int) (found beat : Int) : Int := if decide (sheet ∈ (ix trail beat).l) = true then beat else found
end GL
namespace GL
open PySem PySem.Spec PyProof.Rows L2
def lsStep (ls : List Int) (b stop : Int) (s : Int × Option Int) (t : Int) : Int × Option Int :=
  if decide (t < stop) && decide (s.1 < lackM ls b stop t) then (lackM ls b stop t, some t) else s
def lsFold (ls : List Int) (b stop : Int) : Int × Option Int := (usrt ls).foldl (lsStep ls b stop) (0, none)
@[irreducible] def leastM (n : Int) (trace : List (Tp Int)) (b stop : Int) : Int × Option Int := lsFold (lastsM n trace stop) b stop
@[irreducible] def lawLeastM (n : Int) (trace : List (Tp Int)) (b stop : Int) : Int := maxL ([0] ++ (rng (-1) stop).map fun t => lackM (lastsM n trace stop) b stop t)
structure LsI (ls : List Int) (b stop : Int) (xs : List Int) (s : Int × Option Int) : Prop where
  nn : 0 ≤ s.1
  all : ∀ t ∈ xs, t < stop → lackM ls b stop t ≤ s.1
  nil : s.1 = 0 ↔ s.2 = none
  at_ : ∀ t, s.2 = some t → t ∈ xs ∧ t < stop ∧ lackM ls b stop t = s.1
end GL
namespace GL
open PySem PySem.Spec PyProof.Rows L2
def inT (stop : Int) (t : Int) : Bool := decide (0 ≤ t) && decide (t < stop)
def copStep (stop : Int) (d : Dct Int) (p : Int × Int) : Dct Int := if inT stop p.1 = true then d.put p.2 (max p.1 ((d.get? p.2).getD p.1)) else d
@[irreducible] def copM (copies : List (Int × Int)) (stop : Int) : Dct Int := copies.foldl (copStep stop) Dct.emp
@[irreducible] def leftM (n : Int) (trace : List (Tp Int)) (plan : List (Int × Int) × Int) : List Int := (rng 0 n).filter fun x => !((copM plan.1 plan.2).get? x).isSome || decide (dix (copM plan.1 plan.2) x ≤ ((writtenIn trace 0 plan.2).get? x).getD (-1))
def tks (copies : List (Int × Int)) (stop x : Int) : List Int := (copies.filter fun p => decide (p.2 = x) && inT stop p.1).map (·.1)
theorem lastG (trace : List (Tp Int)) (stop x : Int) : ((writtenIn trace 0 stop).get? x).getD (-1) = lastW trace stop x := by
  unfold lastW
  rw [writtenIn_get]
def lfT (trace : List (Tp Int)) (copies : List (Int × Int)) (stop x : Int) : Bool := decide (tks copies stop x = []) || decide (maxL (tks copies stop x) ≤ lastW trace stop x)
def lfStep (trace : List (Tp Int)) (plan : List (Int × Int) × Int) (f : List Int) (x : Int) : List Int := if lfT trace plan.1 plan.2 x = true then f ++ [x] else f
end GL
namespace GL
open PySem PySem.Spec PyProof.Rows L2
@[irreducible] def dueM (lasts : List Int) (m : Int) : List Int := cutL ((srt2 ((enumI lasts).map fun x => (x.2, x.1))).map fun x => x.2) none (some m)
@[irreducible] def plc (b stop : Int) (xs : List Int) : List (Int × Int) := (enumI xs).map fun p => (stop - 1 - p.1 / b, p.2)
abbrev PlanT := Str × Sum (List (Int × Int)) (Option Int)
@[irreducible] def planM (n : Int) (trace : List (Tp Int)) (b s stop : Int) : PlanT :=
  if decide (s < (leastM n trace b stop).1) = true then (Str.ofString "barred", .inr (leastM n trace b stop).2)
  else (Str.ofString "plan", .inl (srt2 (plc b stop (dueM (lastsM n trace stop) (max 0 (n - s))).reverse)))
def roomF (b stop k t : Int) : Int := if t < stop then max 0 (min b (k - b * (stop - 1 - t))) else 0
def tickF (b stop k : Int) : Int := if k = 0 then stop - 1 else stop - 1 - (k - 1) / b
theorem roomF_0 {b stop t : Int} (hb : 0 < b) : roomF b stop 0 t = 0 := by
  unfold roomF
  split
  · have := Int.mul_nonneg (show 0 ≤ b by omega) (show 0 ≤ stop - 1 - t by omega)
    omega
  · rfl
theorem roomF_succ {b stop k t : Int} (hb : 0 < b) (hk : 0 ≤ k) : roomF b stop (k + 1) t = roomF b stop k t + (if t = stop - 1 - k / b then 1 else 0) := by
  have e1 := Int.mul_ediv_self_le (x := k) (k := b) (by omega)
  have e2 := Int.lt_mul_ediv_self_add (x := k) (k := b) hb
  have e3 : 0 ≤ k / b := Int.ediv_nonneg hk (by omega)
  generalize k / b = q at *
  unfold roomF
  by_cases ht : t < stop
  · rw [if_pos ht, if_pos ht]
    rcases Int.lt_trichotomy (stop - 1 - t) q with h | h | h
    · have := Int.mul_le_mul_of_nonneg_left (show stop - 1 - t + 1 ≤ q by omega) (show 0 ≤ b by omega)
      rw [Int.mul_add, Int.mul_one] at this
      rw [if_neg (by omega)]
      omega
    · rw [if_pos (by omega), h]
      omega
    · have := Int.mul_le_mul_of_nonneg_left (show q + 1 ≤ stop - 1 - t by omega) (show 0 ≤ b by omega)
      rw [Int.mul_add, Int.mul_one] at this
      rw [if_neg (by omega)]
      omega
  · rw [if_neg ht, if_neg ht, if_neg (by omega)]
    rfl
theorem tickF_succ {b stop k : Int} (hk : 0 ≤ k) : tickF b stop (k + 1) = stop - 1 - k / b := by
  unfold tickF
  rw [if_neg (by omega), Int.add_sub_cancel]
theorem plc_snoc (b stop : Int) (xs : List Int) (x : Int) : plc b stop (xs ++ [x]) = plc b stop xs ++ [(stop - 1 - (xs.length : Int) / b, x)] := by
  unfold plc enumI
  rw [List.zipIdx_append, List.map_append, List.map_append]
  simp
structure PlI (b stop : Int) (pre : List Int) (st : List (Int × Int) × Dct Int × Int) : Prop where
  cop : st.1 = plc b stop pre
  room : ∀ t, ((st.2.1.get? t).getD 0) = roomF b stop pre.length t
  few : st.2.1.l.length ≤ pre.length
  tick : st.2.2 = tickF b stop pre.length
theorem PlI.start (b stop : Int) (hb : 0 < b) : PlI b stop [] ([], Dct.emp, stop - 1) :=
  ⟨by unfold plc enumI; rfl, fun t => by show (0 : Int) = roomF b stop ((0 : Nat) : Int) t; rw [show ((0 : Nat) : Int) = 0 from rfl, roomF_0 hb], Nat.le_refl _, by unfold tickF; rfl⟩
theorem Dct.put_len {α : Type} (d : Dct α) (k : Int) (x : α) : (d.put k x).l.length ≤ d.l.length + 1 := by
  unfold Dct.put
  dsimp only
  split
  · rw [List.length_map]; omega
  · rw [List.length_append]; simp
theorem PlI.next {b stop : Int} {pre : List Int} {c : List (Int × Int)} {r : Dct Int} {t t' x : Int} (h : PlI b stop pre (c, r, t)) (hb : 0 < b) (e : t' = stop - 1 - (pre.length : Int) / b) :
    PlI b stop (pre ++ [x]) (c ++ [(t', x)], r.put t' ((r.get? t').getD 0 + 1), t') := by
  have hr := h.room
  have hc := h.cop
  have hf := h.few
  dsimp only at hr hc hf
  have el : ((pre ++ [x]).length : Int) = (pre.length : Int) + 1 := by simp
  refine ⟨?_, fun j => ?_, ?_, ?_⟩
  · dsimp only; rw [plc_snoc, hc, e]
  · dsimp only
    rw [el, roomF_succ hb (by omega), Dct.get?_put, ← e]
    by_cases hj : j = t'
    · rw [if_pos hj, if_pos hj, hr, hj]; rfl
    · rw [if_neg hj, if_neg hj, hr]; omega
  · have := Dct.put_len r t' ((r.get? t').getD 0 + 1)
    simp only [List.length_append, List.length_singleton]
    omega
  · dsimp only; rw [el, tickF_succ (by omega), e]
end GL
namespace GL
open PySem PySem.Spec PyProof.Rows L2
instance : Inhabited (Tp Int) := ⟨⟨[]⟩⟩
abbrev ScanT := Sum (T3 Str Int (List (Int × Int))) (Str × List Int)
def scB (n : Int) (trace : List (Tp Int)) (b s : Int) (found : List Int) (stop : Int) : Fl (List Int) ScanT :=
  if decide ((planM n trace b s stop).1 = Str.ofString "plan") = true then .rt (.inl ⟨Str.ofString "stop", stop, lG (planM n trace b s stop).2⟩) else .nx (found ++ [(rG (planM n trace b s stop).2).getD default])
@[irreducible] def scanM (w : Str) (n : Int) (trace : List (Tp Int)) (b s m : Int) : ScanT := forL (scB n trace b s) (fun f => .inr (w, f)) (rng 0 m) []
@[irreducible] def longM (lead ring : List (Tp Int)) (stop : Int) : List (Tp Int) := whl (fun f => decide ((f.length : Int) < stop)) (fun f => Fl.nx (f ++ ring)) id stop.toNat lead
def manyM (n : Int) (lead ring : List (Tp Int)) (b : Int) : Int := (lead.length : Int) + (ring.length : Int) + (n + b - 1) / b
@[irreducible] def everM (n : Int) (lead ring : List (Tp Int)) (b s : Int) : ScanT := scanM (Str.ofString "never") n (longM lead ring (manyM n lead ring b)) b s (manyM n lead ring b)
end GL
namespace GL
open PySem PySem.Spec PyProof.Rows L2
end GL
namespace GL
open PySem PySem.Spec PyProof.Rows L2
theorem ceil_le {n b j : Int} (hb : 0 < b) : (n + b - 1) / b ≤ j ↔ n ≤ b * j := by
  have e1 := Int.mul_ediv_self_le (x := n + b - 1) (k := b) (by omega)
  have e2 := Int.lt_mul_ediv_self_add (x := n + b - 1) (k := b) hb
  generalize (n + b - 1) / b = q at *
  constructor
  · intro h
    have := Int.mul_le_mul_of_nonneg_left h (show 0 ≤ b by omega)
    omega
  · intro h
    by_cases g : q ≤ j
    · exact g
    · have := Int.mul_le_mul_of_nonneg_left (show j + 1 ≤ q by omega) (show 0 ≤ b by omega)
      rw [Int.mul_add, Int.mul_one] at this
      omega
abbrev wholeT (n : Int) : Tp Int := ⟨rng 0 n⟩
instance {α β γ : Type} [Inhabited α] [Inhabited β] [Inhabited γ] : Inhabited (T3 α β γ) := ⟨⟨default, default, default⟩⟩
end GL
namespace GL
open PySem PySem.Spec PyProof.Rows L2
section
variable {n b most : Int} (hn : 1 ≤ n) (hb : 1 ≤ b)
include hn hb
end
end GL
namespace GL
open PySem PySem.Spec PyProof.Rows L2
theorem lastN_lt10 (T : List (Tp Int)) (x : Int) : ∀ k : Nat, (lastN T k x).getD (-1) < k
  | 0 => by show (-1 : Int) < 0; omega
  | k + 1 => by
    rw [lastN]
    split
    · show (k : Int) < ((k + 1 : Nat) : Int); omega
    · have := lastN_lt10 T x k; omega
theorem lastW_lt {T : List (Tp Int)} {k x : Int} (h : 0 ≤ k) : lastW T k x < k := by
  have := lastN_lt10 T x k.toNat
  unfold lastW
  omega
theorem lastW_next {T : List (Tp Int)} {k x : Int} (h : 0 ≤ k) : lastW T (k + 1) x = if x ∈ (T.getD k.toNat ⟨[]⟩).l then k else lastW T k x := by
  unfold lastW
  rw [show (k + 1).toNat = k.toNat + 1 by omega, lastN]
  split
  · show ((k.toNat : Nat) : Int) = k; omega
  · rfl
structure Fr (T : List (Tp Int)) (fresh : Dct Bool) (cop : Dct Int) (beat : Int) : Prop where
  iff : ∀ x, (fresh.get? x).isSome = true ↔ ∃ c, cop.get? x = some c ∧ lastW T beat x < c
  le : ∀ x c, cop.get? x = some c → 0 ≤ c ∧ c ≤ beat
  ok : fresh.Ok 1000
theorem Fr.start (T : List (Tp Int)) : Fr T Dct.emp Dct.emp 0 := ⟨fun x => ⟨fun h => absurd h Bool.false_ne_true, fun ⟨c, h, _⟩ => (nomatch h)⟩, fun x c h => (nomatch h), Dct.Ok.emp⟩
theorem Fr.put {T : List (Tp Int)} {fresh : Dct Bool} {cop : Dct Int} {beat x : Int} (h : Fr T fresh cop beat) (h0 : 0 ≤ beat) (hx : 0 ≤ x ∧ x < 1000) : Fr T (fresh.put x true) (cop.put x beat) beat := by
  refine ⟨fun y => ?_, fun y c hc => ?_, h.ok.put _ hx⟩
  · rw [Dct.get?_put, Dct.get?_put]
    by_cases e : y = x
    · rw [if_pos e, if_pos e]
      exact ⟨fun _ => ⟨beat, rfl, lastW_lt h0⟩, fun _ => rfl⟩
    · rw [if_neg e, if_neg e]
      exact h.iff y
  · rw [Dct.get?_put] at hc
    by_cases e : y = x
    · rw [if_pos e] at hc
      have : beat = c := Option.some.inj hc
      omega
    · rw [if_neg e] at hc
      exact h.le y c hc
theorem get?_dels (x : Int) : ∀ (l : List Int) (d : Dct Bool), (l.foldl (fun f y => f.del y) d).get? x = if x ∈ l then none else d.get? x
  | [], d => by simp
  | y :: l, d => by
    rw [List.foldl_cons, get?_dels x l, Dct.get?_del]
    by_cases h : x ∈ l
    · rw [if_pos h, if_pos (List.mem_cons_of_mem _ h)]
    · rw [if_neg h]
      by_cases e : x = y
      · rw [if_pos e, if_pos (by rw [e]; exact List.mem_cons_self)]
      · rw [if_neg e, if_neg (fun q => (List.mem_cons.mp q).elim e h)]
theorem dels_ok : ∀ (l : List Int) {d : Dct Bool}, d.Ok 1000 → (l.foldl (fun f y => f.del y) d).Ok 1000
  | [], d, h => h
  | y :: l, d, h => dels_ok l (h.del y)
theorem Fr.row {T : List (Tp Int)} {fresh : Dct Bool} {cop : Dct Int} {beat : Int} (h : Fr T fresh cop beat) (h0 : 0 ≤ beat) : Fr T ((T.getD beat.toNat ⟨[]⟩).l.foldl (fun f y => f.del y) fresh) cop (beat + 1) := by
  refine ⟨fun y => ?_, fun y c hc => by have := h.le y c hc; omega, dels_ok _ h.ok⟩
  rw [get?_dels, lastW_next h0]
  by_cases e : y ∈ (T.getD beat.toNat ⟨[]⟩).l
  · rw [if_pos e, if_pos e]
    refine ⟨fun z => absurd z Bool.false_ne_true, fun ⟨c, hc, q⟩ => ?_⟩
    have := h.le y c hc
    omega
  · rw [if_neg e, if_neg e]
    exact h.iff y
structure DuT (T : List (Tp Int)) (b tick : Int) (W : List Int) (cop0 : Dct Int) (beat : Int) (q : Nat) (fresh : Dct Bool) (waits : List Int) : Prop where
  w : waits = W.drop q
  f : Fr T fresh (((enumI W).take q).foldl (rdCop b tick) cop0) beat
theorem enum_take {W : List Int} {q : Nat} (h : q < W.length) : (enumI W).take (q + 1) = (enumI W).take q ++ [((q : Int), W[q])] := by
  rw [List.take_add_one]
  congr 1
  unfold enumI
  rw [List.getElem?_map, List.getElem?_zipIdx, List.getElem?_eq_getElem h]
  simp
theorem DuT.next {T : List (Tp Int)} {b tick : Int} {W : List Int} {cop0 : Dct Int} {beat : Int} {q : Nat} {fresh : Dct Bool} {waits : List Int} (I : DuT T b tick W cop0 beat q fresh waits) (hW : ∀ x ∈ W, 0 ≤ x ∧ x < 1000) (h0 : 0 ≤ beat) (hq : q < W.length) (hj : tick + (q : Int) / b = beat) : DuT T b tick W cop0 beat (q + 1) (fresh.put (ix waits 0) true) (waits.drop 1) := by
  have e : ix waits 0 = W[q] := by
    rw [I.w]
    unfold ix
    rw [List.getD_eq_getElem?_getD, show (0 : Int).toNat = 0 from rfl, List.getElem?_drop, Nat.add_zero, List.getElem?_eq_getElem hq]
    rfl
  refine ⟨by rw [I.w, List.drop_drop], ?_⟩
  rw [enum_take hq, List.foldl_append, List.foldl_cons, List.foldl_nil, e]
  show Fr T _ (Dct.put _ W[q] (tick + (q : Int) / b)) beat
  rw [hj]
  exact I.f.put h0 (hW _ (List.getElem_mem hq))
def DuI (T : List (Tp Int)) (b tick : Int) (W : List Int) (cop0 : Dct Int) (st : Dct Bool × Int × List Int) : Prop :=
  ∃ j p : Nat, st.2.1 = tick + j ∧ p ≤ W.length ∧ p ≤ j * b.toNat ∧ (p < W.length → p = j * b.toNat) ∧ (0 < j → (j - 1) * b.toNat < W.length) ∧ DuT T b tick W cop0 st.2.1 p st.1 st.2.2
theorem DuI.start {T : List (Tp Int)} {b tick : Int} {W : List Int} {cop0 : Dct Int} {fresh : Dct Bool} (h : Fr T fresh cop0 tick) : DuI T b tick W cop0 (fresh, tick, W) :=
  ⟨0, 0, by show tick = tick + ((0 : Nat) : Int); omega, Nat.zero_le _, by omega, fun _ => by omega, fun h => absurd h (by omega), ⟨rfl, h⟩⟩
theorem DuI.fin {T : List (Tp Int)} {b tick : Int} {W : List Int} {cop0 : Dct Int} {fresh : Dct Bool} {beat : Int} {waits : List Int} (I : DuI T b tick W cop0 (fresh, beat, waits)) (hb : 1 ≤ b) (hW : W ≠ []) (hw : waits = []) : beat = tick + ((W.length : Int) + b - 1) / b ∧ Fr T fresh ((enumI W).foldl (rdCop b tick) cop0) beat := by
  obtain ⟨j, p, e, h1, h2, h3, h4, h5⟩ := I
  dsimp only at e h5
  have hp : p = W.length := by
    have := h5.w
    rw [hw] at this
    have := congrArg List.length this
    rw [List.length_drop, List.length_nil] at this
    omega
  have hl : 0 < W.length := List.length_pos_iff.mpr hW
  have hj : 0 < j := Nat.pos_of_ne_zero fun z => by rw [z, Nat.zero_mul] at h2; omega
  have h6 := h4 hj
  have hbn : ((b.toNat : Nat) : Int) = b := by omega
  have a1 : ((W.length : Int) + b - 1) / b ≤ j := (ceil_le (by omega)).mpr (by
    rw [hp] at h2
    have : ((W.length : Nat) : Int) ≤ ((j * b.toNat : Nat) : Int) := by omega
    rw [Int.natCast_mul, hbn, Int.mul_comm] at this
    exact this)
  have a2 : ¬ ((W.length : Int) + b - 1) / b ≤ j - 1 := fun z => by
    have := (ceil_le (n := (W.length : Int)) (b := b) (j := (j : Int) - 1) (by omega)).mp z
    have h7 : (((j - 1) * b.toNat : Nat) : Int) < ((W.length : Nat) : Int) := by omega
    rw [Int.natCast_mul, hbn, Int.mul_comm, show ((j - 1 : Nat) : Int) = (j : Int) - 1 by omega] at h7
    omega
  refine ⟨by omega, ?_⟩
  have h8 := h5.f
  rw [hp, ← len_enumI, List.take_length] at h8
  exact h8
theorem DuI.step {T : List (Tp Int)} {b tick : Int} {W : List Int} {cop0 : Dct Int} {beat : Int} {j p m : Nat} {fresh : Dct Bool} {waits : List Int} (hb : 1 ≤ b) (h0 : 0 ≤ beat) (e : beat = tick + j) (hp : p < W.length) (hpj : p = j * b.toNat) (hm : (m : Int) = min b ((W.length - p : Nat) : Int)) (I : DuT T b tick W cop0 beat (p + m) fresh waits) :
    DuI T b tick W cop0 ((T.getD beat.toNat ⟨[]⟩).l.foldl (fun f y => f.del y) fresh, beat + 1, waits) := by
  have hs : (j + 1) * b.toNat = j * b.toNat + b.toNat := Nat.succ_mul j b.toNat
  refine ⟨j + 1, p + m, by show beat + 1 = tick + ((j + 1 : Nat) : Int); omega, by omega, by omega, fun z => by omega, fun _ => by rw [Nat.add_sub_cancel]; omega, ⟨I.w, I.f.row h0⟩⟩
def DoI (n : Int) (T : List (Tp Int)) (b s most : Int) (st : Dct Bool × List (Int × Tp Int) × Int × List Int) : Prop :=
  ∃ (m : Nat) (cop : Dct Int), roundsM n T b s most = whl (rdC most s) (rdB n T b) rdK m (st.2.1, cop, st.2.2.1, st.2.2.2) ∧ RdI n b most (st.2.1, cop, st.2.2.1, st.2.2.2) ∧ most ≤ st.2.1.length + m ∧ Fr T st.1 cop st.2.2.1 ∧ (st.2.1 = [] → st.2.2.2 ≠ [])
def dueC (most s : Int) (st : Dct Bool × List (Int × Tp Int) × Int × List Int) : Bool := decide (st.2.1 = []) || (decide ((st.2.1.length : Int) < most) && decide (s < (st.2.2.2.length : Int)))
theorem DoI.start {n : Int} {T : List (Tp Int)} {b s most : Int} (hn : 1 ≤ n) (hm : 1 ≤ most) : DoI n T b s most (Dct.emp, [], 0, rng 0 n) :=
  ⟨most.toNat, Dct.emp, by unfold roundsM; rfl, RdI.start (by omega), by show most ≤ ((([] : List (Int × Tp Int)).length : Nat) : Int) + (most.toNat : Int); simp; omega, Fr.start T, fun _ z => by
    have := congrArg List.length z
    rw [len_rng] at this
    simp at this
    omega⟩
theorem due_law {n tick : Int} {T : List (Tp Int)} {fresh : Dct Bool} {cop : Dct Int} (h : Fr T fresh cop tick) (hc : ∀ x, 0 ≤ x → x < n → (cop.get? x).isSome = true) : (rng 0 n).filter (fun x => !(fresh.get? x).isSome) = rdDue n T cop tick := by
  unfold rdDue
  rw [List.map_id']
  apply List.filter_congr
  intro x hx
  have hx' := mem_rng.mp hx
  obtain ⟨c, hcx⟩ := Option.isSome_iff_exists.mp (hc x hx'.1 hx'.2)
  have hd : dix cop x = c := dix_of hcx
  have h1 := h.iff x
  have h2 := h.le x c hcx
  have h3 := lastG T tick x
  rw [hd]
  cases e : (writtenIn T 0 tick).get? x with
  | none =>
    rw [e] at h3
    have h4 : lastW T tick x = -1 := h3.symm
    have : (fresh.get? x).isSome = true := h1.mpr ⟨c, hcx, by omega⟩
    rw [this]
    rfl
  | some t =>
    rw [e] at h3
    have h4 : t = lastW T tick x := h3
    have h5 : dix (writtenIn T 0 tick) x = t := dix_of e
    rw [h5]
    by_cases q : t < c
    · rw [h1.mpr ⟨c, hcx, by omega⟩, decide_eq_false (by omega)]
      rfl
    · have : (fresh.get? x).isSome = false := Bool.eq_false_iff.mpr fun z => by
        obtain ⟨c', e1, e2⟩ := h1.mp z
        rw [hcx] at e1
        cases e1
        omega
      rw [this, decide_eq_true (by omega)]
      rfl
theorem DoI.next {n : Int} {T : List (Tp Int)} {b s most : Int} {fresh fresh' : Dct Bool} {found : List (Int × Tp Int)} {beat beat' : Int} {waits : List Int} {m : Nat} {cop : Dct Int} (P : RdP n T b most)
    (h1 : roundsM n T b s most = whl (rdC most s) (rdB n T b) rdK m (found, cop, beat, waits)) (h2 : RdI n b most (found, cop, beat, waits)) (h3 : most ≤ found.length + m) (hc : rdC most s (found, cop, beat, waits) = true)
    (hb : beat' = beat + ((waits.length : Int) + b - 1) / b) (hf : Fr T fresh' ((enumI waits).foldl (rdCop b beat) cop) beat') :
    DoI n T b s most (fresh', found ++ [(beat, ⟨waits⟩)], beat', (rng 0 n).filter (fun x => !(fresh'.get? x).isSome)) := by
  have hlt := rdC_lt hc
  dsimp only at hlt
  have e : rdN n T b (found, cop, beat, waits) = (found ++ [(beat, ⟨waits⟩)], (enumI waits).foldl (rdCop b beat) cop, beat', (rng 0 n).filter (fun x => !(fresh'.get? x).isSome)) := by
    rw [due_law hf fun x x0 x1 => h2.covered x0 x1]
    subst hb
    rfl
  cases m with
  | zero => omega
  | succ m =>
    refine ⟨m, (enumI waits).foldl (rdCop b beat) cop, ?_, ?_, ?_, hf, fun z => absurd z (by simp)⟩
    · have := whl_nx h1 hc rfl
      rw [e] at this
      exact this
    · have := h2.next P
      rw [e] at this
      exact this
    · show most ≤ (((found ++ [(beat, (⟨waits⟩ : Tp Int))]).length : Nat) : Int) + (m : Int)
      rw [List.length_append, List.length_singleton]
      omega
end GL
namespace GL
open PySem PySem.Spec PyProof.Rows L2
variable {C : Addr}
theorem get?_delL (x : Int) (l : List Int) (d : Dct Bool) : (l.foldl Dct.del d).get? x = if x ∈ l then none else d.get? x := get?_dels x l d
def NoLack (z : Car C) : Prop := ∀ p, (z.absent.get? p).isSome = false
structure CarRun (g : Prog) (s : Stand) (l : Lets) (t av : Int) (z : Car C) : Prop where
  gg : z.g = g
  st : z.st = (runF g s l (rng 0 t)).2.1
  wait : z.wait = (availM l av).drop (runF g s l (rng 0 t)).1.toNat
  done : z.done = t
  sl : (z.said.length : Int) ≤ t
theorem CarRun.ok {g : Prog} {s : Stand} {l : Lets} {t av : Int} {z : Car C} (h : CarRun g s l t av z) (hg : ProgOk g) (hs : StandOk g s) (hl : LetsOk g l) (ht : t ≤ 100000) : CarOk z := by
  obtain ⟨h1, h2, h3, h4, h5⟩ := h
  have ha := avail_ok hl av (runF g s l (rng 0 t)).1.toNat
  exact ⟨by rw [h1]; exact hg, by rw [h1, h2]; exact (run_ok hg hs hl _).1, by rw [h1, h3]; exact ha.1, by rw [h3]; exact ha.2, by omega⟩
theorem run_next {g : Prog} {s : Stand} {l : Lets} {t : Int} (ht : 0 ≤ t) : runF g s l (rng 0 (t + 1)) = runStep g l (runF g s l (rng 0 t)) t := by rw [rng_succ ht, run_snoc]
theorem CarRun.went {g : Prog} {s : Stand} {l : Lets} {t : Int} {z : Car C} (h : CarRun g s l t t z) (ht : 0 ≤ t) (h0 : ((runF g s l (rng 0 t)).1) ≥ 0) : CarRun g s l (t + 1) t (wentM z (tickM z.g z.st z.wait)) := by
  obtain ⟨h1, h2, h3, h4, h5⟩ := h
  have e : tickM z.g z.st z.wait = tickM g (runF g s l (rng 0 t)).2.1 ((availM l t).drop (runF g s l (rng 0 t)).1.toNat) := by rw [h1, h2, h3]
  refine ⟨h1, ?_, ?_, ?_, ?_⟩
  · rw [run_next ht, runStep_stand, ← e]
    rfl
  · rw [run_next ht, runStep_used, ← e]
    show (if decide ((tickM z.g z.st z.wait).b = Str.ofString "took") = true then z.wait.drop 1 else z.wait) = _
    split
    · rw [h3, List.drop_drop]
      congr 1
      omega
    · rw [Int.add_zero, h3]
  · show z.done + 1 = t + 1
    rw [h4]
  · show ((if decide ((tickM z.g z.st z.wait).b = Str.ofString "said") = true then z.said ++ [(tickM z.g z.st z.wait).c.getD default] else z.said).length : Int) ≤ t + 1
    split
    · rw [List.length_append]
      show ((z.said.length + 1 : Nat) : Int) ≤ t + 1
      omega
    · omega
def lastC (cps : List (Int × Int)) (p : Int) : Option Int := ((cps.filter fun c => decide (c.2 = p)).map (·.1)).getLast?
def freshB (cps : List (Int × Int)) (tou : Tou) (p : Int) : Bool := match lastC cps p with
  | none => false
  | some k => ((rng k tou.length).filter fun j => decide (p ∈ (ix tou j).2.l)).isEmpty
theorem lastC_same {cps : List (Int × Int)} {t p : Int} : lastC (cps ++ [(t, p)]) p = some t := by
  unfold lastC
  rw [List.filter_append, List.filter_cons, if_pos (by simp), List.filter_nil, List.map_append]
  simp
theorem lastC_other {cps : List (Int × Int)} {t p q : Int} (h : p ≠ q) : lastC (cps ++ [(t, p)]) q = lastC cps q := by
  unfold lastC
  rw [List.filter_append, List.filter_cons, if_neg (by simp [h]), List.filter_nil, List.append_nil]
theorem lastC_mem {cps : List (Int × Int)} {p k : Int} (h : lastC cps p = some k) : (k, p) ∈ cps := by
  unfold lastC at h
  have := List.mem_of_getLast? h
  obtain ⟨c, hc, e⟩ := List.mem_map.mp this
  have h2 := List.mem_filter.mp hc
  have e2 : c.2 = p := by simpa using h2.2
  rw [← e, ← e2]
  exact h2.1
theorem fresh_copy {cps : List (Int × Int)} {tou : Tou} {t p q : Int} (ht : t = tou.length) : freshB (cps ++ [(t, p)]) tou q = (decide (q = p) || freshB cps tou q) := by
  by_cases e : q = p
  · subst e
    unfold freshB
    rw [lastC_same, ht]
    dsimp only
    rw [rng_nil (Int.le_refl _)]
    simp
  · unfold freshB
    rw [lastC_other (fun z => e z.symm), decide_eq_false e]
    rfl
theorem fresh_tick {cps : List (Int × Int)} {tou : Tou} {x : Tp Int × Tp Int} {p : Int} (h : ∀ c ∈ cps, 0 ≤ c.1 ∧ c.1 ≤ tou.length) : freshB cps (tou ++ [x]) p = (freshB cps tou p && !decide (p ∈ x.2.l)) := by
  unfold freshB
  cases e : lastC cps p with
  | none => rfl
  | some k =>
    have hk := h _ (lastC_mem e)
    dsimp only at hk ⊢
    rw [List.length_append, show ((tou.length + [x].length : Nat) : Int) = (tou.length : Int) + 1 by simp, rng_succ hk.2, List.filter_append]
    have e1 : (rng k tou.length).filter (fun j => decide (p ∈ (ix (tou ++ [x]) j).2.l)) = (rng k tou.length).filter (fun j => decide (p ∈ (ix tou j).2.l)) := by
      refine List.filter_congr fun j hj => ?_
      have hj' := mem_rng.mp hj
      unfold ix
      rw [List.getD_eq_getElem?_getD, List.getD_eq_getElem?_getD, List.getElem?_append_left (by omega)]
    have e2 : ix (tou ++ [x]) (tou.length : Int) = x := by
      unfold ix
      rw [List.getD_eq_getElem?_getD, Int.toNat_natCast, List.getElem?_append_right (Nat.le_refl _), Nat.sub_self]
      rfl
    rw [e1]
    by_cases c : p ∈ x.2.l
    · rw [List.filter_cons, e2, if_pos (by simpa using c), decide_eq_true c]
      simp
    · rw [List.filter_cons, e2, if_neg (by simpa using c), decide_eq_false c]
      simp
structure Going (h : Int) (cps : List (Int × Int)) (tou : Tou) (z : Car C) : Prop where
  goal : z.goal = some h
  still : z.still = false
  ab : z.absent.l = []
  made : z.made = cps.length
  fr : ∀ p, (z.fresh.get? p).isSome = freshB cps tou p
  fl : z.fresh.l.length ≤ cps.length
theorem Going.copy {h : Int} {cps : List (Int × Int)} {tou : Tou} {z : Car C} {t p : Int} (k : Going h cps tou z) (ht : t = tou.length) : Going h (cps ++ [(t, p)]) tou (copyC z p) := by
  obtain ⟨h1, h2, h3, h4, h5, h6⟩ := k
  unfold copyC
  refine ⟨h1, h2, h3, ?_, fun q => ?_, ?_⟩
  · show z.made + 1 = _
    rw [h4, List.length_append]
    simp
  · show ((z.fresh.put p true).get? q).isSome = _
    rw [Dct.get?_put, fresh_copy ht, ← h5 q]
    by_cases e : q = p
    · rw [if_pos e, decide_eq_true e]; rfl
    · rw [if_neg e, decide_eq_false e]; rfl
  · have := put_len (d := z.fresh) (k := p) (x := true)
    rw [List.length_append]
    show (z.fresh.put p true).l.length ≤ cps.length + 1
    omega
theorem dels_len : ∀ (l : List Int) (d : Dct Bool), (l.foldl Dct.del d).l.length ≤ d.l.length
  | [], d => Nat.le_refl _
  | p :: l, d => Nat.le_trans (dels_len l (d.del p)) del_len
theorem Going.went {h : Int} {cps : List (Int × Int)} {tou : Tou} {z : Car C} {t : TickR} (k : Going h cps tou z) (hc : ∀ c ∈ cps, 0 ≤ c.1 ∧ c.1 ≤ tou.length) : Going h cps (tou ++ [(t.d, t.e)]) (wentM z t) := by
  obtain ⟨h1, h2, h3, h4, h5, h6⟩ := k
  refine ⟨h1, h2, ?_, h4, fun q => ?_, ?_⟩
  · show (t.e.l.foldl Dct.del z.absent).l = []
    have := dels_len t.e.l z.absent
    rw [h3] at this
    exact List.eq_nil_of_length_eq_zero (by simpa using this)
  · show ((t.e.l.foldl Dct.del z.fresh).get? q).isSome = _
    rw [get?_delL, fresh_tick hc, ← h5 q]
    by_cases e : q ∈ t.e.l
    · rw [if_pos e, decide_eq_true e]; simp
    · rw [if_neg e, decide_eq_false e]; simp
  · exact Nat.le_trans (dels_len _ _) h6
end GL
namespace L2
open PySem PySem.Spec PyProof.Rows
section
variable {X : Cx}
def tMethW (C : Addr) (m : Str) (sp : Sp) (E : St → XK) (ta : TE) (t : TA) : TE := fun σ H Q => ta σ H fun x H1 => ∃ a dx fs, x = .ref a ∧ H1 a = some (.ins C dx fs) ∧ fs.lookup m = none ∧ t σ H1 fun vs H2 => sp (x :: vs) H2 Q (E σ)
theorem pe_methW {CX : CXT} {C f : Addr} {k : Nat} {m : Str} {fd : FuncData} {ps : List Str} {sp : Sp} {E : St → XK} {o e : Expr} {es : List Expr} {ta : TE} {t : TA} {apos pos : Pos} {pl : Sem Bool} (he : PE X o ta) (c : Cls X.K C) (hm : Meth X.K C m f)
    (F : FnOk X.prog X.w X.K X.mg X.base CX k f fd ps sp) (hr : Room k X.A) (hb : Binds X.K fd ps []) (hx : ∀ σ, PassesAt CX X σ (E σ)) (ha : PA X (e :: es) t)
    (hst : starEach (e :: es) X.env = (false, eval e X.env) :: starEach es X.env := by rfl) (hpl : (backTo pos (starEach es X.env)).any (·.1) = false := by rfl)
    (ht : eval (.Call (.Attribute o m apos) (e :: es) [] pos) X.env = (do
      let ov ← eval o X.env
      standAt apos.atName
      let (f, first) ← holding [ov] (getMethod ov m pl)
      callWith pos f first (backTo pos (starEach (e :: es) X.env)) (backToKw pos (keywordEach [] X.env))) := by rfl) :
    PE X (.Call (.Attribute o m apos) (e :: es) [] pos) (tMethW C m sp E ta t) := ⟨fun pins s σ H Q I h => by
  refine PySem.W.methodCall_KW (pl := pl) (thn (he.run pins s σ H _ I h) fun u s1 ⟨x, H1, I1, rx, a, dx, fs, ex, ea, l, q⟩ => ?_) ht
  subst ex
  cases rx
  refine getmeth_ok I1 ea c hm l (PySem.W.callWith_K (first := [.ref a]) (h₀ := s1.heap) I1.kIn hm.kp (thn (ha.run pos pins s1 σ H1 _ I1 q) fun us s2 ⟨vs, H2, I2, r2, q2⟩ => ⟨I2.kIn, ?_⟩) hst hpl)
  exact run_fnS (vs := .ref a :: vs) F hr hb (hx σ) I2 (.cons rfl r2) q2⟩
def rCntV (K : PySem.W.Frag) : V → List V → Hp → VK → Prop := fun x xs H Q => ∃ (p : Addr) (ys : List V) (y : V), x = .ref p ∧ xs = [y] ∧ SqL K H p ys ∧ flatV y = true ∧ ys.all flatV = true ∧ Q (.int ((ys.countP fun z => eqV z y) : Nat)) H
end
end L2
namespace GL
open PySem PySem.Spec PyProof.Rows L2
structure MCalX (P : Program) (w : World) (K : Fg) (mg : Str → Option Value) (base : Heap) (k : Nat) (C : Addr) (m : Str) (ps : List Str) (sp : Sp) : Prop where
  ex : ∃ (f : Addr) (fd : FuncData), Meth K C m f ∧ FnOk P w K mg base (L2.CX P w) k f fd ps sp ∧ Binds K fd ps []
theorem pe_mcalX {X : Cx} {j k : Nat} {C : Addr} {m : Str} {ps : List Str} {sp : Sp} {o e : Expr} {es : List Expr} {ta : TE} {t : TA} {apos pos : Pos} {pl : Sem Bool} {W : WX} (c : MCalX X.prog X.w X.K X.mg X.base k C m ps sp) (cl : Cls X.K C) (tk : Takes X W) (hr : Room j X.A) (hk : k ≤ j) (he : PE X o ta) (ha : PA X (e :: es) t)
    (hst : starEach (e :: es) X.env = (false, eval e X.env) :: starEach es X.env := by rfl) (hpl : (backTo pos (starEach es X.env)).any (·.1) = false := by rfl)
    (ht : eval (.Call (.Attribute o m apos) (e :: es) [] pos) X.env = (do
      let ov ← eval o X.env
      standAt apos.atName
      let (f, first) ← holding [ov] (getMethod ov m pl)
      callWith pos f first (backTo pos (starEach (e :: es) X.env)) (backToKw pos (keywordEach [] X.env))) := by rfl) :
    PE X (.Call (.Attribute o m apos) (e :: es) [] pos) (tMethW C m sp (WE W) ta t) := by
  obtain ⟨f, fd, a, b, d⟩ := c.ex
  exact pe_methW (pl := pl) he cl a b (hr.mono hk) d (fun σ => passAt tk σ) ha hst hpl ht
def spOX {ω α β : Type} [Own ω] [PyA α] [Py β] (K : Fg) (Y : XC → Addr) (R : ω → α → β → ω → Prop) (Rf : ω → α → XC → Prop) (pre : ω → α → Prop) : Sp := fun vs H Q E => ∃ (S : Hp) (v0 : V) (ws : List V) (ps : List Addr) (z : ω) (a : α), vs = v0 :: ws ∧ Same S H ∧ Own.own K S H v0 ps z ∧
  (∀ p ∈ ps, S p = none ∧ ∃ o, H p = some o) ∧ PyA.rep K S ws a ∧ pre z a ∧
  (∀ v S' H' ps' y z', R z a y z' → Same S S' → Same S' H' → (∀ p o, p ∉ ps → H p = some o → H' p = some o) → (∀ p o, p ∉ ps → H p = some o → S' p = S p) →
    (∀ p ∈ ps', S' p = none ∧ (∃ o, H' p = some o) ∧ (p ∈ ps ∨ H p = none)) → Own.own K S' H' v0 ps' z' → Py.rep K S' v y → Q v H') ∧
  ∀ e S' H', Rf z a e → Same S S' → Same S' H' → (∀ p o, p ∉ ps → H p = some o → H' p = some o) → (∀ p o, p ∉ ps → H p = some o → S' p = S p) → (∀ p ∈ ps, S' p = none ∧ ∃ o, H' p = some o) → Own.own K S' H' v0 ps z → E (.ref (Y e)) none H'
section
variable {C : Addr} {K : Fg} {B S0 S1 S S' D : Hp} {σ : L2.St} {H H' : Hp} {F : Nat → List Addr} {G G' G1 G2 : List Sl} {ta te : TE} {i j : Nat} {t : TA} {u : TS} {E : Ends} {Ex : XK} {m : Str} {Y : XC → Addr} {W : WX}
variable {α β : Type} [PyA α] [Py β] {z z1 : Car C} {a : α} {R : Car C → α → β → Car C → Prop} {Rf : Car C → α → XC → Prop} {pre : Car C → α → Prop}
end
section
variable {P : Program} {w : World} {K : Fg} {mg : Str → Option Value} {base : Heap} {α β : Type} [Sls α] [Py β] {C : Addr} {Y : XC → Addr}
end
end GL
namespace GL
open PySem PySem.Spec PyProof.Rows L2
section
variable {K : Fg} {B S0 S1 S S' D : Hp} {σ : L2.St} {H H' : Hp} {F : Nat → List Addr} {G G' G1 G2 : List Sl} {ta tb te : TE} {t u : TS} {E : Ends} {i j : Nat} {Y : XC → Addr} {α : Type}
structure Wd where
  w : Str
  n : List Int
instance : Py Wd := ⟨fun K S v x => ∃ p, v = .ref p ∧ SqT K S p (.str x.w :: x.n.map V.int), fun e ⟨p, h1, h2⟩ => ⟨p, h1, seqT e h2⟩⟩
instance : Inhabited Wd := ⟨⟨Str.empty, []⟩⟩
end
end GL
namespace GL
open PySem PySem.Spec PyProof.Rows L2
class NoLF (α : Type) [Py α] [PyF α] : Prop where
  go : ∀ {K : Fg} {D S : Hp} {p : Addr} {us : List V} {o : HO} {v : V} {x : α}, D p = some o → S p = some (.lst us) → PyF.repF K D S v x → PyF.repF K D (del S p) v x
section
variable {α β γ : Type} [Py α] [Py β] [Py γ]
instance : NoLF Int := ⟨fun _ _ h => h⟩
instance : NoLF Bool := ⟨fun _ _ h => h⟩
instance : NoLF Str := ⟨fun _ _ h => h⟩
instance : NoLF Unit := ⟨fun _ _ h => h⟩
instance [NoL α] : NoLF (Tp α) := ⟨fun {K D S p us o v x} _ h r => (inferInstance : NoL (Tp α)).go (v := v) (x := x) h r⟩
instance [NoL α] : NoLF (List α) := ⟨fun {K D S p us o v x} hd hs ⟨⟨q, vs, h1, h2, h3⟩, q', h4, h5⟩ => ⟨⟨q, vs, h1, by
  have ne : q ≠ p := fun z => by
    rw [h1] at h4
    cases h4
    rw [z, hd] at h5
    cases h5
  rw [del_ne ne]
  exact h2, nlAll hs h3⟩, q', h4, h5⟩⟩
instance [PyF α] [PyF β] [NoLF α] [NoLF β] : NoLF (α × β) := ⟨fun {K D S p us o v x} hd hs ⟨a, b, c, h1, h2, h3, h4⟩ => ⟨a, b, c, h1, nlT hs h2, NoLF.go hd hs h3, NoLF.go hd hs h4⟩⟩
instance [PyF α] [PyF β] [PyF γ] [NoLF α] [NoLF β] [NoLF γ] : NoLF (T3 α β γ) := ⟨fun {K D S p us o v x} hd hs ⟨a, b, c, d, h1, h2, h3, h4, h5⟩ => ⟨a, b, c, d, h1, nlT hs h2, NoLF.go hd hs h3, NoLF.go hd hs h4, NoLF.go hd hs h5⟩⟩
end
section
variable {K : Fg} {B S0 S1 S S' D : Hp} {σ : L2.St} {H H' : Hp} {F : Nat → List Addr} {G G' G1 G2 : List Sl} {ta tb te : TE} {t u : TS} {E : Ends} {Ex : XK} {i j : Nat} {α β δ : Type}
def EvAL [Py δ] [PyA α] (K : Fg) (i : Nat) (d : List δ) (ta : TA) (G : List Sl) (x : α) (G' : List Sl) : Prop :=
  ∀ B S0 S σ H F, Kn K B S0 S σ H F G → ∀ Q : List V → Hp → Prop, (∀ vs S' H', Same S S' → Kn K B S0 S' σ H' F G' → (∀ p us, σ[i]? = some (some (.ref p)) → RepL K S' us d → S' p = none → PyA.rep K (upd S' p (.lst us)) vs x) → Q vs H') → ta σ H Q
end
end GL
namespace GL
open PySem PySem.Spec PyProof.Rows L2
def EvMv {α τ : Type} [Py α] (K : Fg) (te : TE) (G : List Sl) (R : τ → Prop) (x : τ → α) (st : τ → List Sl) : Prop :=
  ∀ B S0 S σ H F, Kn K B S0 S σ H F G → ∀ Q : VK, (∀ w, R w → ∀ v S' H' F', Same S S' → Kn K B S0 S' σ H' F' (st w) → Py.rep K S' v (x w) → Q v H') → te σ H Q
def EvTMv {τ : Type} (K : Fg) (tt : TT) (G : List Sl) (R : τ → Prop) (b : τ → Bool) (st : τ → List Sl) : Prop :=
  ∀ B S0 S σ H F, Kn K B S0 S σ H F G → ∀ Q : Bool → Hp → Prop, (∀ w, R w → ∀ S' H' F', Same S S' → Kn K B S0 S' σ H' F' (st w) → Q (b w) H') → tt σ H Q
def spO2 {ω η α β : Type} [Own ω] [Own η] [PyA α] [Py β] (K : Fg) (R : ω → η → α → β → ω → η → Prop) (pre : ω → η → α → Prop) : Sp := fun vs H Q _ => ∃ (S : Hp) (v0 v1 : V) (ws : List V) (ps qs : List Addr) (z : ω) (y : η) (a : α), vs = v0 :: v1 :: ws ∧ Same S H ∧ Own.own K S H v0 ps z ∧ Own.own K S H v1 qs y ∧
  (∀ p ∈ ps, S p = none ∧ ∃ o, H p = some o) ∧ (∀ p ∈ qs, S p = none ∧ ∃ o, H p = some o) ∧ (∀ p ∈ ps, p ∉ qs) ∧ PyA.rep K S ws a ∧ pre z y a ∧
  ∀ v S' H' ps' qs' b z' y', R z y a b z' y' → Same S S' → Same S' H' → (∀ p o, p ∉ ps → p ∉ qs → H p = some o → H' p = some o) → (∀ p o, p ∉ ps → p ∉ qs → H p = some o → S' p = S p) →
    (∀ p ∈ ps', S' p = none ∧ (∃ o, H' p = some o) ∧ (p ∈ ps ∨ p ∈ qs ∨ H p = none)) → (∀ p ∈ qs', S' p = none ∧ (∃ o, H' p = some o) ∧ (p ∈ ps ∨ p ∈ qs ∨ H p = none)) → (∀ p ∈ ps', p ∉ qs') →
    Own.own K S' H' v0 ps' z' → Own.own K S' H' v1 qs' y' → Py.rep K S' v b → Q v H'
section
variable {K : Fg} {B S0 S1 S S' D : Hp} {σ : L2.St} {H H' : Hp} {F : Nat → List Addr} {G G' G1 G2 G3 : List Sl} {ta tb tc te : TE} {i j : Nat} {t : TA} {u w : TS} {tt uu : TT} {E : Ends} {g : TG} {X : XK}
section
variable {α β τ : Type} [Py α] [Py β] {R : τ → Prop} {x : τ → α} {st : τ → List Sl} {b : τ → Bool} {y : α}
theorem ev_toV (h : EvX K te G y G1) : EvMv K te G (fun _ : Unit => True) (fun _ => y) (fun _ => G1) := fun B S0 S σ H F k Q q => h B S0 S σ H F k Q fun v S' H' e k' r => q () True.intro v S' H' F e k' r
theorem etv_B (h : EvMv K te G R b st) : EvTMv K (tB te) G R b st := fun B S0 S σ H F k Q q => h B S0 S σ H F k _ fun w hw v S1 H1 F1 e1 k1 r1 => ⟨b w, r1, q w hw S1 H1 F1 e1 k1⟩
theorem etv_not (h : EvTMv K tt G R b st) : EvTMv K (tNot tt) G R (fun w => !b w) st := fun B S0 S σ H F k Q q => h B S0 S σ H F k _ fun w hw S1 H1 F1 e1 k1 => q w hw S1 H1 F1 e1 k1
theorem q_ifVF {t : TS} (h : EvTMv K tt G R b st) (h1 : ∀ z, R z → b z = false) (h2 : ∀ z, R z → At K B S0 (u E) (st z)) : At K B S0 (tSeq (tIfS tt t tNext) u E) G := fun S σ H F kn =>
  h B S0 S σ H F kn _ fun z hz S' H' F' e kn' => by
    rw [h1 z hz]
    exact h2 z hz S' σ H' F' kn'
theorem q_setV (i : Nat) (h : EvMv K te G R x st) (hi : ∀ w, ((st w)[i]?).isSome = true) (k : ∀ w, R w → At K B S0 (u E) ((st w).set i (.im (x w)))) : At K B S0 (tSeq (tAsg te (gName i)) u E) G := fun S σ H F kn =>
  h B S0 S σ H F kn _ fun w hw v S' H' F' e kn' r => k w hw S' _ H' F' (kn'.set r (hi w))
theorem q_dropV (h : EvMv K te G R x st) (k : ∀ w, R w → At K B S0 (u E) (st w)) : At K B S0 (tSeq (tDrop te) u E) G := fun S σ H F kn =>
  h B S0 S σ H F kn _ fun w hw v S' H' F' e kn' r => k w hw S' _ H' F' kn'
theorem q_retV (h : EvMv K te G R x st) (k : ∀ w, R w → RT K B S0 E.rt (x w) (st w)) : At K B S0 (tSeq (tRet te) u E) G := fun S σ H F kn =>
  h B S0 S σ H F kn _ fun w hw v S' H' F' e kn' r => k w hw S' σ H' F' v kn' r
end
section
variable {ω η : Type} [Own ω] [Own η] {z z' z1 : ω} {y y' y1 : η}
theorem Kn.moved2 {S2 H2 : Hp} {v0 v1 : V} {ps' qs' : List Addr} (k1 : Kn K B S0 S1 σ H F G1) (ne : i ≠ j) (hi1 : G1[i]? = some (.ow z)) (hj1 : G1[j]? = some (.ow y)) (h1 : σ[i]? = some (some v0)) (h2 : σ[j]? = some (some v1)) (s1 : Same S1 S2) (s2 : Same S2 H2)
    (hk : ∀ p o, p ∉ F i → p ∉ F j → H p = some o → H2 p = some o) (hc : ∀ p o, p ∉ F i → p ∉ F j → H p = some o → S2 p = S1 p)
    (hl : ∀ p ∈ ps', S2 p = none ∧ (∃ o, H2 p = some o) ∧ (p ∈ F i ∨ p ∈ F j ∨ H p = none)) (hm : ∀ p ∈ qs', S2 p = none ∧ (∃ o, H2 p = some o) ∧ (p ∈ F i ∨ p ∈ F j ∨ H p = none)) (hd : ∀ p ∈ ps', p ∉ qs')
    (ho : Own.own K S2 H2 v0 ps' z') (hy : Own.own K S2 H2 v1 qs' y') : Kn K B S0 S2 σ H2 (upF (upF F i ps') j qs') ((G1.set i (.ow z')).set j (.ow y')) := by
  have hB : ∀ p, (p ∈ F i ∨ p ∈ F j ∨ H p = none) → B p = none := fun p hp => by
    rcases hp with m | m | m
    · exact (k1.off i p m).2.1
    · exact (k1.off j p m).2.1
    · exact (k1.free m).2.1
  have hN : ∀ p, (p ∈ F i ∨ p ∈ F j ∨ H p = none) → ∀ k, k ≠ i → k ≠ j → p ∉ F k := fun p hp k c1 c2 m => by
    rcases hp with m' | m' | m'
    · exact c1 (k1.dj k i p m m')
    · exact c2 (k1.dj k j p m m')
    · exact (k1.free m').2.2 k m
  have eF : ∀ k, upF (upF F i ps') j qs' k = if k = j then qs' else if k = i then ps' else F k := fun k => by
    by_cases c : k = j
    · rw [if_pos c, c, upF_self]
    · rw [if_neg c, upF_ne c]
      by_cases c' : k = i
      · rw [if_pos c', c', upF_self]
      · rw [if_neg c', upF_ne c']
  have nB : ∀ p o, B p = some o → p ∉ F i ∧ p ∉ F j := fun p o e => ⟨fun m => by (rw [(k1.off i p m).2.1] at e; cases e), fun m => by (rw [(k1.off j p m).2.1] at e; cases e)⟩
  refine ⟨k1.s0.trans s1, s2, fun p o e => hk p o (nB p o e).1 (nB p o e).2 (k1.keep p o e), fun p o e => (hc p o (nB p o e).1 (nB p o e).2 (k1.keep p o e)).trans (k1.clean p o e), fun k p hp => ?_, fun a b p ha hb => ?_, by rw [List.length_set, List.length_set]; exact k1.len, fun k s e => ?_⟩
  · rw [eF] at hp
    by_cases c : k = j
    · rw [if_pos c] at hp
      exact ⟨(hm p hp).1, hB p (hm p hp).2.2, (hm p hp).2.1⟩
    · rw [if_neg c] at hp
      by_cases c' : k = i
      · rw [if_pos c'] at hp
        exact ⟨(hl p hp).1, hB p (hl p hp).2.2, (hl p hp).2.1⟩
      · rw [if_neg c'] at hp
        obtain ⟨a1, a2, o, a3⟩ := k1.off k p hp
        have n1 : p ∉ F i := fun m => c' (k1.dj k i p hp m)
        have n2 : p ∉ F j := fun m => c (k1.dj k j p hp m)
        exact ⟨(hc p o n1 n2 a3).trans a1, a2, o, hk p o n1 n2 a3⟩
  · rw [eF] at ha hb
    by_cases a1 : a = j
    · rw [if_pos a1] at ha
      by_cases b1 : b = j
      · rw [a1, b1]
      · rw [if_neg b1] at hb
        by_cases b2 : b = i
        · rw [if_pos b2] at hb
          exact absurd ha (hd p hb)
        · rw [if_neg b2] at hb
          exact absurd hb (hN p (hm p ha).2.2 b b2 b1)
    · rw [if_neg a1] at ha
      by_cases a2 : a = i
      · rw [if_pos a2] at ha
        by_cases b1 : b = j
        · rw [if_pos b1] at hb
          exact absurd hb (hd p ha)
        · rw [if_neg b1] at hb
          by_cases b2 : b = i
          · rw [a2, b2]
          · rw [if_neg b2] at hb
            exact absurd hb (hN p (hl p ha).2.2 b b2 b1)
      · rw [if_neg a2] at ha
        by_cases b1 : b = j
        · rw [if_pos b1] at hb
          exact absurd ha (hN p (hm p hb).2.2 a a2 a1)
        · rw [if_neg b1] at hb
          by_cases b2 : b = i
          · rw [if_pos b2] at hb
            exact absurd ha (hN p (hl p hb).2.2 a a2 a1)
          · rw [if_neg b2] at hb
            exact k1.dj a b p ha hb
  · rw [eF]
    rcases set_get e with ⟨rfl, rfl⟩ | ⟨n1, e⟩
    · rw [if_pos rfl]
      exact ⟨v1, h2, hy⟩
    · rw [if_neg n1]
      rcases set_get e with ⟨rfl, rfl⟩ | ⟨n2, e⟩
      · rw [if_pos rfl]
        exact ⟨v0, h1, ho⟩
      · rw [if_neg n2]
        have w := k1.sl k s e
        cases s with
        | no => exact True.intro
        | im y =>
          obtain ⟨u, b1, b2⟩ := w
          exact ⟨u, b1, Py.mono s1 b2⟩
        | ow y =>
          obtain ⟨u, b1, b2⟩ := w
          refine ⟨u, b1, Own.mono s1 (fun p hp => ?_) b2⟩
          obtain ⟨_, _, o, a3⟩ := k1.off k p hp
          rw [a3]
          exact hk p o (fun m => n2 (k1.dj k i p hp m)) (fun m => n1 (k1.dj k j p hp m)) a3
theorem ev_callO2 {α β : Type} [PyA α] [Py β] {a : α} {R : ω → η → α → β → ω → η → Prop} {pre : ω → η → α → Prop} (i j : Nat) (ne : i ≠ j) (hi : G[i]? = some (.ow z)) (hj : G[j]? = some (.ow y)) (ha : EvA K t G a G1) (hi1 : G1[i]? = some (.ow z1)) (hj1 : G1[j]? = some (.ow y1)) (hp : pre z1 y1 a) :
    EvMv K (tCall (spO2 K R pre) [] X (tCons (tVar i) (tCons (tVar j) t))) G (fun w : β × ω × η => R z1 y1 a w.1 w.2.1 w.2.2) (fun w => w.1) (fun w => (G1.set i (.ow w.2.1)).set j (.ow w.2.2)) := fun B S0 S σ H F kn Q q => by
  obtain ⟨v0, h1, _⟩ := kn.ow hi
  obtain ⟨v1, h2, _⟩ := kn.ow hj
  refine ⟨v0, h1, v1, h2, ha B S0 S σ H F kn _ fun vs S1 H1 e1 k1 r1 => ?_⟩
  show spO2 K R pre (v0 :: v1 :: vs ++ []) H1 Q X
  rw [List.append_nil]
  obtain ⟨u0, g1, o1⟩ := k1.ow hi1
  obtain ⟨u1, g2, o2⟩ := k1.ow hj1
  rw [h1] at g1
  rw [h2] at g2
  cases g1
  cases g2
  exact ⟨S1, v0, v1, vs, F i, F j, z1, y1, a, rfl, k1.sub, o1, o2, fun p hp => ⟨(k1.off i p hp).1, (k1.off i p hp).2.2⟩, fun p hp => ⟨(k1.off j p hp).1, (k1.off j p hp).2.2⟩, fun p m m' => ne (k1.dj i j p m m'), r1, hp,
    fun v S2 H2 ps' qs' b z' y' hR s1 s2 hk hc hl hm hd ho hy r2 => q (b, z', y') hR v S2 H2 _ (e1.trans s1) (k1.moved2 ne hi1 hj1 h1 h2 s1 s2 hk hc hl hm hd ho hy) r2⟩
end
end
section
variable {P : Program} {w : World} {K : Fg} {mg : Str → Option Value} {base : Heap} {ω η α β : Type} [Own ω] [Anch ω] [Own η] [Anch η] [Sls α] [Py β] {S H : Hp}
end
def NewC {C : Addr} (g : Prog) (st : Stand) (h : Int) (z : Car C) : Prop := ∃ a w s f b, z = Car.mk a w s f b g st h 0 [] [] 0 none false Dct.emp 0 Dct.emp
section
variable {C : Addr} {K : Fg} {B S0 S1 S S' : Hp} {σ : L2.St} {H H1 H' : Hp} {F : Nat → List Addr} {G G' G1 G2 : List Sl} {i j ck i1 i2 : Nat} {t : TA} {u : TS} {E : Ends} {Ex : XK} {g : Prog} {st : Stand} {h : Int} {pv sv : V}
end
section
variable {C : Addr} {K : Fg} {G : List Sl} {i : Nat} {Ex : XK} {m : Str} {β : Type} [Py β] {z : Car C} {f : Car C → Unit → β × Car C} {pre : Car C → Unit → Prop}
end
end GL
namespace GL
open PySem PySem.Spec PyProof.Rows L2
inductive Sh
  | lst
  | dic (ks : List Key)
  | obj (C dx : Addr) (ks : List Str)
inductive Tr
  | dat (d : Dat)
  | nod (a : Addr) (s : Sh) (l : List Tr)
instance : Inhabited Tr := ⟨.dat .non⟩
def hob : Sh → List V → HO
  | .lst, vs => .lst vs
  | .dic ks, vs => .dK (ks.zip vs)
  | .obj C dx ks, vs => .ins C dx (ks.zip vs)
def ShOk (K : Fg) (n : Nat) : Sh → Prop
  | .lst => True
  | .dic ks => ks.length = n
  | .obj C _ ks => ks.length = n ∧ n < 1000 ∧ Cls K C ∧ ∀ k ∈ ks, NoAttr K C k
mutual
def fpT : Tr → List Addr
  | .dat _ => []
  | .nod a _ l => a :: fpL l
def fpL : List Tr → List Addr
  | [] => []
  | x :: xs => fpT x ++ fpL xs
end
theorem mem_fpL {q : Addr} : ∀ {l : List Tr}, q ∈ fpL l ↔ ∃ x ∈ l, q ∈ fpT x
  | [] => ⟨fun h => (by unfold fpL at h; cases h), fun ⟨x, h, _⟩ => nomatch h⟩
  | x :: xs => by
    unfold fpL
    rw [List.mem_append, mem_fpL (l := xs)]
    constructor
    · rintro (h | ⟨y, h1, h2⟩)
      · exact ⟨x, List.mem_cons_self, h⟩
      · exact ⟨y, List.mem_cons_of_mem _ h1, h2⟩
    · rintro ⟨y, h1, h2⟩
      rcases List.mem_cons.mp h1 with e | h1
      · exact .inl (e ▸ h2)
      · exact .inr ⟨y, h1, h2⟩
theorem fp_sub {a : Addr} {s : Sh} {l : List Tr} {k : Nat} {c : Tr} (h : l[k]? = some c) {q : Addr} (hq : q ∈ fpT c) : q ∈ fpL l := mem_fpL.mpr ⟨c, List.mem_of_getElem? h, hq⟩
theorem fp_nod {a q : Addr} {s : Sh} {l : List Tr} : q ∈ fpT (.nod a s l) ↔ q = a ∨ q ∈ fpL l := by unfold fpT; exact List.mem_cons
inductive OkT (K : Fg) (S H : Hp) : V → Tr → Prop
  | dat {v : V} {d : Dat} : DRep K S v d → OkT K S H v (.dat d)
  | nod {a : Addr} {s : Sh} {l : List Tr} {vs : List V} : H a = some (hob s vs) → ShOk K l.length s → vs.length = l.length → (∀ (k : Nat) v c, vs[k]? = some v → l[k]? = some c → OkT K S H v c) → a ∉ fpL l →
      (∀ (j k : Nat) c d, j ≠ k → l[j]? = some c → l[k]? = some d → ∀ q ∈ fpT c, q ∉ fpT d) → OkT K S H (.ref a) (.nod a s l)
section
variable {K : Fg} {S S' H H' : Hp} {v v' : V} {t u x : Tr}
theorem OkT.mono (h : OkT K S H v t) (e : Same S S') (a : ∀ p ∈ fpT t, H' p = H p) : OkT K S' H' v t := by
  induction h with
  | dat r => exact .dat (r.mono e)
  | nod h1 h2 h3 h4 h5 h6 ih =>
    refine .nod (by rw [a _ (fp_nod.mpr (.inl rfl))]; exact h1) h2 h3 (fun k v c hv hc => ih k v c hv hc fun p hp => a p (fp_nod.mpr (.inr (fp_sub (a := 0) (s := .lst) hc hp)))) h5 h6
theorem OkT.som (h : OkT K S H v t) : ∀ q ∈ fpT t, ∃ o, H q = some o := by
  induction h with
  | dat r => intro q hq; unfold fpT at hq; cases hq
  | @nod a s l vs h1 h2 h3 h4 h5 h6 ih =>
    intro q hq
    rcases fp_nod.mp hq with e | hq
    · rw [e]; exact ⟨_, h1⟩
    · obtain ⟨c, hc, hq⟩ := mem_fpL.mp hq
      obtain ⟨k, hk⟩ := List.getElem?_of_mem hc
      have hl : k < vs.length := by rw [h3]; exact (List.getElem?_eq_some_iff.mp hk).1
      exact ih k vs[k] c (List.getElem?_eq_getElem hl) hk q hq
def getT : Tr → List Nat → Option Tr
  | t, [] => some t
  | .dat _, _ :: _ => none
  | .nod _ _ l, k :: p => match l[k]? with
    | some c => getT c p
    | none => none
def putT : Tr → List Nat → Tr → Tr
  | _, [], x => x
  | .dat d, _ :: _, _ => .dat d
  | .nod a s l, k :: p, x => match l[k]? with
    | some c => .nod a s (l.set k (putT c p x))
    | none => .nod a s l
theorem get_nod {a : Addr} {s : Sh} {l : List Tr} {k : Nat} {p : List Nat} : getT (.nod a s l) (k :: p) = match l[k]? with | some c => getT c p | none => none := rfl
theorem get_in : ∀ {p : List Nat} {t u : Tr}, getT t p = some u → ∀ q ∈ fpT u, q ∈ fpT t
  | [], t, u, h, q, hq => by cases t <;> (unfold getT at h; cases h; exact hq)
  | k :: p, .dat _, u, h, q, hq => by unfold getT at h; cases h
  | k :: p, .nod a s l, u, h, q, hq => by
    rw [get_nod] at h
    cases e : l[k]? with
    | none => rw [e] at h; cases h
    | some c =>
      rw [e] at h
      exact fp_nod.mpr (.inr (fp_sub (a := 0) (s := .lst) e (get_in h q hq)))
theorem OkT.get : ∀ {p : List Nat} {v : V} {t u : Tr}, OkT K S H v t → getT t p = some u → ∃ w, OkT K S H w u
  | [], v, t, u, h, e => by cases t <;> (unfold getT at e; cases e; exact ⟨v, h⟩)
  | k :: p, v, .dat _, u, h, e => by unfold getT at e; cases e
  | k :: p, v, .nod a s l, u, h, e => by
    rw [get_nod] at e
    cases ec : l[k]? with
    | none => rw [ec] at e; cases e
    | some c =>
      rw [ec] at e
      cases h with
      | @nod _ _ _ vs h1 h2 h3 h4 h5 h6 =>
        have hl : k < vs.length := by rw [h3]; exact (List.getElem?_eq_some_iff.mp ec).1
        exact OkT.get (h4 k _ c (List.getElem?_eq_getElem hl) ec) e
theorem put_fp : ∀ {p : List Nat} {t x : Tr}, ∀ q ∈ fpT (putT t p x), q ∈ fpT t ∨ q ∈ fpT x
  | [], t, x, q, hq => by cases t <;> exact .inr hq
  | k :: p, .dat _, x, q, hq => .inl hq
  | k :: p, .nod a s l, x, q, hq => by
    unfold putT at hq
    cases ec : l[k]? with
    | none => rw [ec] at hq; exact .inl hq
    | some c =>
      rw [ec] at hq
      rcases fp_nod.mp hq with e | hq
      · exact .inl (fp_nod.mpr (.inl e))
      · obtain ⟨y, hy, hq⟩ := mem_fpL.mp hq
        rcases List.mem_or_eq_of_mem_set hy with hy | e
        · exact .inl (fp_nod.mpr (.inr (mem_fpL.mpr ⟨y, hy, hq⟩)))
        · rw [e] at hq
          rcases put_fp (p := p) (t := c) (x := x) q hq with h | h
          · exact .inl (fp_nod.mpr (.inr (fp_sub (a := 0) (s := .lst) ec h)))
          · exact .inr h
theorem OkT.put : ∀ {p : List Nat} {v : V} {t u x : Tr}, OkT K S H v t → getT t p = some u → Same S S' → (∀ q ∈ fpT t, q ∉ fpT u → H' q = H q) → (∀ q ∈ fpT x, q ∈ fpT u ∨ q ∉ fpT t) →
    (∀ w, OkT K S H w u → OkT K S' H' w x) → OkT K S' H' v (putT t p x)
  | [], v, t, u, x, h, e, es, ha, hn, hx => by
    cases t <;> (unfold getT at e; cases e; exact hx v h)
  | k :: p, v, .dat _, u, x, h, e, es, ha, hn, hx => by unfold getT at e; cases e
  | k :: p, v, .nod a s l, u, x, h, e, es, ha, hn, hx => by
    rw [get_nod] at e
    cases ec : l[k]? with
    | none => rw [ec] at e; cases e
    | some c =>
      rw [ec] at e
      unfold putT
      rw [ec]
      cases h with
      | @nod _ _ _ vs h1 h2 h3 h4 h5 h6 =>
        have hkl : k < l.length := (List.getElem?_eq_some_iff.mp ec).1
        have hac : a ∉ fpT c := fun q => h5 (fp_sub (a := 0) (s := .lst) ec q)
        have hau : a ∉ fpT u := fun q => hac (get_in e a q)
        have hcu : ∀ q ∈ fpT c, q ∈ fpT (.nod a s l) := fun q hq => fp_nod.mpr (.inr (fp_sub (a := 0) (s := .lst) ec hq))
        have ih : ∀ w, vs[k]? = some w → OkT K S' H' w (putT c p x) := fun w hw => OkT.put (h4 k w c hw ec) e es (fun q hq hnu => ha q (hcu q hq) hnu) (fun q hq => (hn q hq).elim .inl fun z => .inr fun zc => z (hcu q zc)) hx
        have hpc : ∀ q ∈ fpT (putT c p x), q ∈ fpT c ∨ q ∉ fpT (.nod a s l) := fun q hq => by
          rcases put_fp q hq with h | h
          · exact .inl h
          · rcases hn q h with z | z
            · exact .inl (get_in e q z)
            · exact .inr z
        refine .nod (by rw [ha a (fp_nod.mpr (.inl rfl)) hau]; exact h1) (by rw [List.length_set]; exact h2) (by rw [List.length_set]; exact h3) (fun j w d hw hd => ?_) (fun q => ?_) (fun i j d d' ne hd hd' q hq hq' => ?_)
        · by_cases ej : k = j
          · subst ej
            rw [List.getElem?_set_self hkl] at hd
            cases hd
            exact ih w hw
          · rw [List.getElem?_set_ne ej] at hd
            refine (h4 j w d hw hd).mono es fun q hq => ha q (fp_nod.mpr (.inr (fp_sub (a := 0) (s := .lst) hd hq))) fun hqu => ?_
            exact h6 k j c d ej ec hd q (get_in e q hqu) hq
        · obtain ⟨y, hy, hq⟩ := mem_fpL.mp q
          rcases List.mem_or_eq_of_mem_set hy with hy | ey
          · exact h5 (mem_fpL.mpr ⟨y, hy, hq⟩)
          · rw [ey] at hq
            rcases hpc a hq with z | z
            · exact hac z
            · exact z (fp_nod.mpr (.inl rfl))
        · by_cases ei : k = i
          · subst ei
            rw [List.getElem?_set_self hkl] at hd
            rw [List.getElem?_set_ne ne] at hd'
            cases hd
            rcases hpc q hq with z | z
            · exact h6 k j c d' ne ec hd' q z hq'
            · exact z (fp_nod.mpr (.inr (fp_sub (a := 0) (s := .lst) hd' hq')))
          · rw [List.getElem?_set_ne ei] at hd
            by_cases ej : k = j
            · subst ej
              rw [List.getElem?_set_self hkl] at hd'
              cases hd'
              rcases hpc q hq' with z | z
              · exact h6 i k d c ne hd ec q hq z
              · exact z (fp_nod.mpr (.inr (fp_sub (a := 0) (s := .lst) hd hq)))
            · rw [List.getElem?_set_ne ej] at hd'
              exact h6 i j d d' ne hd hd' q hq hq'
end
mutual
def erT : Tr → Tr
  | .dat d => .dat d
  | .nod _ s l => .nod 0 (erS s) (erL l)
def erL : List Tr → List Tr
  | [] => []
  | x :: xs => erT x :: erL xs
def erS : Sh → Sh
  | .lst => .lst
  | .dic ks => .dic ks
  | .obj C _ ks => .obj C 0 ks
end
theorem erL_map : ∀ l : List Tr, erL l = l.map erT
  | [] => rfl
  | x :: xs => by rw [erL, List.map_cons, erL_map xs]
theorem er_nod {a : Addr} {s : Sh} {l : List Tr} : erT (.nod a s l) = .nod 0 (erS s) (l.map erT) := by rw [erT, erL_map]
theorem er_dat {d : Dat} : erT (.dat d) = .dat d := by rw [erT]
theorem er_isDat {t : Tr} {d : Dat} (h : erT t = .dat d) : t = .dat d := by
  cases t with
  | dat e => rw [er_dat] at h; exact h
  | nod a s l => rw [er_nod] at h; cases h
theorem er_isNod {t : Tr} {b : Addr} {s : Sh} {l : List Tr} (h : erT t = .nod b s l) : ∃ a s' l', t = .nod a s' l' ∧ erS s' = s ∧ l'.map erT = l := by
  cases t with
  | dat e => rw [er_dat] at h; cases h
  | nod a s' l' =>
    rw [er_nod] at h
    cases h
    exact ⟨a, s', l', rfl, rfl, rfl⟩
theorem erS_lst {s : Sh} (h : erS s = .lst) : s = .lst := by cases s <;> (unfold erS at h; cases h) <;> rfl
theorem erS_dic {s : Sh} {ks : List Key} (h : erS s = .dic ks) : s = .dic ks := by cases s <;> (unfold erS at h; cases h) <;> rfl
theorem er_isLst {t : Tr} {l : List Tr} (h : erT t = .nod 0 .lst l) : ∃ a l', t = .nod a .lst l' ∧ l'.map erT = l := by
  obtain ⟨a, s, l', rfl, h1, h2⟩ := er_isNod h
  rw [erS_lst h1]
  exact ⟨a, l', rfl, h2⟩
theorem er_dats {α : Type} {f : α → Dat} : ∀ {l : List Tr} {xs : List α}, l.map erT = xs.map (fun x => Tr.dat (f x)) → l = xs.map fun x => Tr.dat (f x)
  | [], [], _ => rfl
  | y :: l, x :: xs, h => by
    rw [List.map_cons, List.map_cons, List.cons.injEq] at h
    rw [List.map_cons, er_isDat h.1, er_dats h.2]
  | [], _ :: _, h => by cases h
  | _ :: _, [], h => by cases h
theorem er_isLstD {α : Type} {f : α → Dat} {t : Tr} {xs : List α} (h : erT t = .nod 0 .lst (xs.map fun x => Tr.dat (f x))) : ∃ a, t = .nod a .lst (xs.map fun x => Tr.dat (f x)) := by
  obtain ⟨a, l', rfl, e⟩ := er_isLst h
  exact ⟨a, by rw [er_dats e]⟩
theorem okt_ref {K : Fg} {S H : Hp} {v : V} {a : Addr} {s : Sh} {l : List Tr} (h : OkT K S H v (.nod a s l)) : v = .ref a := by cases h; rfl
structure Nd where
  a : Addr
  s : Sh
  l : List Tr
def Nd.t (z : Nd) : Tr := .nod z.a z.s z.l
def Nd.fp (z : Nd) : List Addr := fpT z.t
instance : Own Nd := ⟨fun K S H v ps z => ps = z.fp ∧ OkT K S H v z.t, fun {K S S' H H' v ps x} e a ⟨h1, h2⟩ => ⟨h1, h2.mono e (by rw [h1] at a; exact a)⟩⟩
theorem own_ref {K : Fg} {S H : Hp} {v : V} {ps : List Addr} {z : Nd} (h : Own.own K S H v ps z) : v = .ref z.a := by
  have := h.2
  unfold Nd.t at this
  cases this
  rfl
instance : Anch Nd := ⟨fun z => (.ref z.a, z.fp), fun h => by rw [own_ref h, h.1]⟩
def Nd.put (z : Nd) (p : List Nat) (x : Tr) : Nd := match putT z.t p x with
  | .nod a s l => ⟨a, s, l⟩
  | .dat _ => z
theorem Nd.put_t {z : Nd} {p : List Nat} {b : Addr} {s s' : Sh} {l l' : List Tr} (h : getT z.t p = some (.nod b s l)) : (z.put p (.nod b s' l')).t = putT z.t p (.nod b s' l') ∧ (z.put p (.nod b s' l')).a = z.a := by
  unfold Nd.put
  cases p with
  | nil =>
    unfold Nd.t getT at h
    cases h
    exact ⟨rfl, rfl⟩
  | cons k p =>
    unfold Nd.t putT
    rw [Nd.t, get_nod] at h
    cases e : z.l[k]? with
    | none => rw [e] at h; cases h
    | some c => exact ⟨rfl, rfl⟩
def Nd.er (z : Nd) : Tr := erT z.t
section
variable {K : Fg} {B S0 S1 S S' D : Hp} {σ : L2.St} {H H' : Hp} {F : Nat → List Addr} {G G' G1 G2 : List Sl} {i j : Nat} {z : Nd} {p : List Nat} {b : Addr} {s s' : Sh} {l l' : List Tr}
theorem nd_at (k : Kn K B S0 S σ H F G) (hi : G[i]? = some (.ow z)) : σ[i]? = some (some (.ref z.a)) ∧ F i = z.fp ∧ OkT K S H (.ref z.a) z.t := by
  obtain ⟨v, h1, h2⟩ := k.ow hi
  have e := own_ref h2
  rw [e] at h1 h2
  exact ⟨h1, h2.1, h2.2⟩
theorem nd_node (k : Kn K B S0 S σ H F G) (hi : G[i]? = some (.ow z)) (hp : getT z.t p = some (.nod b s l)) : OkT K S H (.ref b) (.nod b s l) := by
  obtain ⟨w, hw⟩ := (nd_at k hi).2.2.get hp
  rw [okt_ref hw] at hw
  exact hw
end
end GL
namespace GL
open PySem PySem.Spec PyProof.Rows L2
theorem get_app : ∀ {p q : List Nat} {t u : Tr}, getT t p = some u → getT t (p ++ q) = getT u q
  | [], q, t, u, h => by cases t <;> (unfold getT at h; cases h; rfl)
  | k :: p, q, .dat _, u, h => by unfold getT at h; cases h
  | k :: p, q, .nod a s l, u, h => by
    rw [get_nod] at h
    rw [List.cons_append, get_nod]
    cases e : l[k]? with
    | none => rw [e] at h; cases h
    | some c =>
      rw [e] at h
      exact get_app h
class Bck (α : Type) [Py α] [ToD α] : Prop where
  go : ∀ {K : Fg} {S : Hp} {v : V} {x : α}, DRep K S v (ToD.dat x) → Py.rep K S v x
instance : Bck Int := ⟨fun h => by cases h; rfl⟩
instance : Bck Bool := ⟨fun h => by cases h; rfl⟩
instance : Bck Str := ⟨fun h => by cases h; rfl⟩
instance : Bck Unit := ⟨fun h => by cases h; rfl⟩
instance : Bck Dat := ⟨fun h => h⟩
theorem bk_all {α : Type} [Py α] [ToD α] [Bck α] {K : Fg} {S : Hp} : ∀ {vs : List V} {xs : List α}, DRepL K S vs (xs.map ToD.dat) → RepL K S vs xs
  | [], [], _ => True.intro
  | v :: vs, x :: xs, h => by
    rw [List.map_cons] at h
    cases h with
    | cons h1 h2 => exact ⟨Bck.go h1, bk_all h2⟩
  | [], _ :: _, h => by rw [List.map_cons] at h; cases h
  | _ :: _, [], h => by cases h
instance {α : Type} [Py α] [ToD α] [Bck α] : Bck (Tp α) := ⟨fun {K S v x} h => by
  have h' : DRep K S v (.tup (x.l.map ToD.dat)) := h
  cases h' with
  | tup h1 h2 => exact ⟨_, _, rfl, h1, bk_all h2⟩⟩
instance {α β : Type} [Py α] [Py β] [ToD α] [ToD β] [Bck α] [Bck β] : Bck (α × β) := ⟨fun {K S v x} h => by
  have h' : DRep K S v (.tup [ToD.dat x.1, ToD.dat x.2]) := h
  cases h' with
  | tup h1 h2 =>
    cases h2 with
    | cons r1 h2 =>
      cases h2 with
      | cons r2 h2 =>
        cases h2
        exact ⟨_, _, _, rfl, h1, Bck.go r1, Bck.go r2⟩⟩
instance : Bck (Option Int) := ⟨fun {K S v x} h => by
  cases x with
  | none => exact Bck.go (α := Unit) (x := ()) h
  | some y => exact Bck.go (α := Int) (x := y) h⟩
def lf {α : Type} [Py α] [ToD α] (x : α) : Tr := .dat (ToD.dat x)
def lvs {α : Type} [Py α] [ToD α] (xs : List α) : List Tr := xs.map lf
section
variable {α β : Type} [Py α] [ToD α]
theorem lf_fp (x : α) : fpT (lf x) = [] := by unfold lf fpT; rfl
theorem lvs_fp (xs : List α) : fpL (lvs xs) = [] := by
  induction xs with
  | nil => rfl
  | cons x xs ih => unfold lvs; rw [List.map_cons, fpL, lf_fp]; exact ih
theorem lvs_len (xs : List α) : (lvs xs).length = xs.length := List.length_map ..
theorem lvs_at [Inhabited α] {xs : List α} {k : Int} (h : 0 ≤ k ∧ k < xs.length) : (lvs xs)[k.toNat]? = some (lf (ix xs k)) := by
  unfold lvs
  rw [List.getElem?_map, ix_at h.1 h.2]
  rfl
theorem lvs_set (xs : List α) (n : Nat) (x : α) : (lvs xs).set n (lf x) = lvs (xs.set n x) := by unfold lvs; rw [List.map_set]
theorem lvs_app (xs : List α) (x : α) : lvs xs ++ [lf x] = lvs (xs ++ [x]) := by unfold lvs; rw [List.map_append]; rfl
theorem lvs_erase (xs : List α) (n : Nat) : (lvs xs).eraseIdx n = lvs (xs.eraseIdx n) := by
  unfold lvs
  induction xs generalizing n with
  | nil => rfl
  | cons x xs ih => cases n with
    | zero => rfl
    | succ n => rw [List.map_cons, List.eraseIdx_cons_succ, List.eraseIdx_cons_succ, List.map_cons, ih]
theorem lvs_er (xs : List α) : (lvs xs).map erT = lvs xs := by unfold lvs; rw [List.map_map]; exact List.map_congr_left fun x _ => by unfold Function.comp lf; rw [er_dat]
end
def EvN (K : Fg) (te : TE) (G : List Sl) (i : Nat) (z : Nd) (p : List Nat) (b : Addr) (s : Sh) (l : List Tr) : Prop := G[i]? = some (.ow z) ∧ getT z.t p = some (.nod b s l) ∧
  ∀ B S0 S σ H F, Kn K B S0 S σ H F G → ∀ Q : VK, (∀ S' H', Same S S' → Kn K B S0 S' σ H' F G → Q (.ref b) H') → te σ H Q
structure Al where
  a : Addr
instance : Py Al := ⟨fun _ _ v x => v = .ref x.a, fun _ h => h⟩
section
variable {K : Fg} {B S0 S1 S S' D : Hp} {σ : L2.St} {H H' : Hp} {F : Nat → List Addr} {G G' G1 G2 : List Sl} {ta tb te ti : TE} {i j : Nat} {z : Nd} {p : List Nat} {b c : Addr} {s s' : Sh} {l l' : List Tr} {u : TS} {E : Ends} {α : Type} [Py α] [ToD α] [Bck α]
theorem en_root (hi : G[i]? = some (.ow z)) : EvN K (tVar i) G i z [] z.a z.s z.l := ⟨hi, rfl, fun B S0 S σ H F k Q q => ⟨_, (nd_at k hi).1, q S H (Same.refl _) k⟩⟩
theorem okt_node (h : OkT K S H (.ref b) (.nod b s l)) : ∃ vs, H b = some (hob s vs) ∧ ShOk K l.length s ∧ vs.length = l.length ∧ (∀ (k : Nat) v c, vs[k]? = some v → l[k]? = some c → OkT K S H v c) ∧ b ∉ fpL l ∧
    (∀ (j k : Nat) c d, j ≠ k → l[j]? = some c → l[k]? = some d → ∀ q ∈ fpT c, q ∉ fpT d) := by
  cases h with
  | @nod _ _ _ vs h1 h2 h3 h4 h5 h6 => exact ⟨vs, h1, h2, h3, h4, h5, h6⟩
theorem okt_kid (h : OkT K S H (.ref b) (.nod b s l)) {vs : List V} (hv : H b = some (hob s vs)) {n : Nat} {x : Tr} (hx : l[n]? = some x) (hvl : vs.length = l.length) (h4 : ∀ (k : Nat) v c, vs[k]? = some v → l[k]? = some c → OkT K S H v c) : ∃ v, vs[n]? = some v ∧ OkT K S H v x := by
  have hn : n < vs.length := by rw [hvl]; exact (List.getElem?_eq_some_iff.mp hx).1
  exact ⟨vs[n], List.getElem?_eq_getElem hn, h4 n _ _ (List.getElem?_eq_getElem hn) hx⟩
theorem fld_at {C dx : Addr} {ks : List Str} {f : Str} {n : Nat} {x : Tr} (k : Kn K B S0 S σ H F G) (hi : G[i]? = some (.ow z)) (hp : getT z.t p = some (.nod b (.obj C dx ks) l)) (hn : fIx f ks = n) (hl : n < ks.length) (hx : l[n]? = some x) :
    ∃ fs v, H b = some (.ins C dx fs) ∧ Cls K C ∧ NoAttr K C f ∧ fs.lookup f = some v ∧ OkT K S H v x := by
  have o := nd_node k hi hp
  obtain ⟨vs, h1, h2, h3, h4, _⟩ := okt_node o
  obtain ⟨v, h5, h6⟩ := okt_kid o h1 hx h3 h4
  exact ⟨ks.zip vs, v, h1, h2.2.2.1, h2.2.2.2 f (fld_mem ks (by rw [hn]; exact hl)), by rw [look_zip hn hl]; exact h5, h6⟩
theorem en_fld {C dx : Addr} {ks : List Str} {f : Str} (n : Nat) (h : EvN K te G i z p b (.obj C dx ks) l) (hn : fIx f ks = n) (hl : n < ks.length) (hx : l[n]? = some (.nod c s' l')) : EvN K (tFld K te f) G i z (p ++ [n]) c s' l' := by
  refine ⟨h.1, by rw [get_app h.2.1, get_nod, hx]; rfl, fun B S0 S σ H F k Q q => h.2.2 B S0 S σ H F k _ fun S1 H1 e1 k1 => ?_⟩
  obtain ⟨fs, v, h1, h2, h3, h4, h5⟩ := fld_at k1 h.1 h.2.1 hn hl hx
  rw [okt_ref h5] at h4
  exact ⟨b, C, dx, fs, _, rfl, h1, h2, h3, h4, q S1 H1 e1 k1⟩
theorem ev_fldN {C dx : Addr} {ks : List Str} {f : Str} (n : Nat) (x : α) (h : EvN K te G i z p b (.obj C dx ks) l) (hn : fIx f ks = n) (hl : n < ks.length) (hx : l[n]? = some (lf x)) : EvX K (tFld K te f) G x G := fun B S0 S σ H F k Q q => h.2.2 B S0 S σ H F k _ fun S1 H1 e1 k1 => by
  obtain ⟨fs, v, h1, h2, h3, h4, h5⟩ := fld_at k1 h.1 h.2.1 hn hl hx
  refine ⟨b, C, dx, fs, v, rfl, h1, h2, h3, h4, q v S1 H1 e1 k1 ?_⟩
  unfold lf at h5
  cases h5 with
  | dat r => exact Bck.go r
theorem lst_at {n : Nat} {x : Tr} (k : Kn K B S0 S σ H F G) (hi : G[i]? = some (.ow z)) (hp : getT z.t p = some (.nod b .lst l)) (hx : l[n]? = some x) : ∃ vs v, H b = some (.lst vs) ∧ vs.length = l.length ∧ vs[n]? = some v ∧ OkT K S H v x := by
  have o := nd_node k hi hp
  obtain ⟨vs, h1, h2, h3, h4, _⟩ := okt_node o
  obtain ⟨v, h5, h6⟩ := okt_kid o h1 hx h3 h4
  exact ⟨vs, v, h1, h3, h5, h6⟩
theorem en_ix {n : Int} (h : EvN K te G i z p b .lst l) (hk : EvX K ti G n G) (h0 : 0 ≤ n) (hx : l[n.toNat]? = some (.nod c s' l')) : EvN K (tOp (rIxL K) te ti) G i z (p ++ [n.toNat]) c s' l' := by
  refine ⟨h.1, by rw [get_app h.2.1, get_nod, hx]; rfl, fun B S0 S σ H F k Q q => h.2.2 B S0 S σ H F k _ fun S1 H1 e1 k1 => hk B S0 S1 σ H1 F k1 _ fun u S2 H2 e2 k2 r2 => ?_⟩
  obtain ⟨vs, v, h1, h2, h3, h4⟩ := lst_at k2 h.1 h.2.1 hx
  rw [okt_ref h4] at h3
  exact ⟨b, vs, n, _, rfl, r2, SqL.of h1, atI_of h0 h3, q S2 H2 (e1.trans e2) k2⟩
theorem ev_ixN {n : Int} (x : α) (h : EvN K te G i z p b .lst l) (hk : EvX K ti G n G) (h0 : 0 ≤ n) (hx : l[n.toNat]? = some (lf x)) : EvX K (tOp (rIxL K) te ti) G x G := fun B S0 S σ H F k Q q => h.2.2 B S0 S σ H F k _ fun S1 H1 e1 k1 => hk B S0 S1 σ H1 F k1 _ fun u S2 H2 e2 k2 r2 => by
  obtain ⟨vs, v, h1, h2, h3, h4⟩ := lst_at k2 h.1 h.2.1 hx
  refine ⟨b, vs, n, v, rfl, r2, SqL.of h1, atI_of h0 h3, q v S2 H2 (e1.trans e2) k2 ?_⟩
  unfold lf at h4
  cases h4 with
  | dat r => exact Bck.go r
theorem ev_lenN (h : EvN K te G i z p b .lst l) : EvX K (tCB (rLenS K) (tCons te tNil)) G (l.length : Int) G := fun B S0 S σ H F k Q q => h.2.2 B S0 S σ H F k _ fun S1 H1 e1 k1 => by
  obtain ⟨vs, h1, h2, h3, _⟩ := okt_node (nd_node k1 h.1 h.2.1)
  exact ⟨b, vs, rfl, .inl (SqL.of h1), q _ S1 H1 e1 k1 (by rw [h3]; rfl)⟩
theorem lvs_rep {xs : List α} (h : OkT K S H (.ref b) (.nod b .lst (lvs xs))) : ∃ vs, H b = some (.lst vs) ∧ RepL K S vs xs := by
  obtain ⟨vs, h1, h2, h3, h4, h5⟩ := okt_node h
  refine ⟨vs, h1, ?_⟩
  clear h1 h h2 h5
  revert vs
  induction xs with
  | nil => intro vs h3 _; cases vs with
    | nil => exact True.intro
    | cons _ _ => cases h3
  | cons x xs ih =>
    intro vs h3 h4
    cases vs with
    | nil => cases h3
    | cons v vs =>
      refine ⟨?_, ih vs (by simpa [lvs] using h3) fun k v c hv hc => h4 (k + 1) v c hv hc⟩
      have := h4 0 v (lf x) rfl rfl
      unfold lf at this
      cases this with
      | dat r => exact Bck.go r
theorem ec_lvs {xs : List α} (h : EvN K te G i z p b .lst (lvs xs)) : ∀ B S0 S σ H F, Kn K B S0 S σ H F G → ∀ Q : VK, (∀ vs S' H', Same S S' → Kn K B S0 S' σ H' F G → H' b = some (.lst vs) → RepL K S' vs xs → Q (.ref b) H') → te σ H Q := fun B S0 S σ H F k Q q =>
  h.2.2 B S0 S σ H F k _ fun S1 H1 e1 k1 => by
    obtain ⟨vs, h1, h2⟩ := lvs_rep (nd_node k1 h.1 h.2.1)
    exact q vs S1 H1 e1 k1 h1 h2
theorem ev_eqE [Dt α] [DecidableEq α] {xs : List α} (h : EvN K te G i z p b .lst (lvs xs)) (hd : Dt.dep (List α) ≤ 64) : EvX K (tOp (rEqD K) te (tLst tNil)) G (decide (xs = [])) G := fun B S0 S σ H F k Q q => ec_lvs h B S0 S σ H F k _ fun vs S1 H1 e1 k1 hv hr => ⟨by show 0 ≤ sizeLine; decide, fun a ha => by
  have k2 := k1.raw (o := .lst []) ha
  refine ⟨Dt.dat xs, Dt.dat ([] : List α), ?_, ?_, shapedD hd xs, shapedD hd [], q _ S1 _ e1 k2 (by rw [eqvD]; rfl)⟩
  · exact .lst (SqL.of (by rw [upd_ne (ne_of_none hv ha)]; exact hv)) (dpAll (k1.sub.trans (same_new ha)) hr)
  · exact .lst (SqL.of upd_same) .nil⟩
end
end GL
namespace GL
open PySem PySem.Spec PyProof.Rows L2
section
variable {K : Fg} {B S0 S1 S S' D : Hp} {σ : L2.St} {H H' : Hp} {F : Nat → List Addr} {G G' G1 G2 : List Sl} {i j : Nat} {z z' : Nd} {p : List Nat} {b c : Addr} {s s' : Sh} {l l' : List Tr}
theorem Kn.movedN {ω : Type} [Own ω] {y y' : ω} {S2 H2 : Hp} {v0 : V} {ps' : List Addr} (k1 : Kn K B S0 S1 σ H F G1) (hi1 : G1[i]? = some (.ow y)) (h1 : σ[i]? = some (some v0)) (s1 : Same S1 S2) (s2 : Same S2 H2) (hk : ∀ p o, p ∉ F i → p ∉ ps' → H p = some o → H2 p = some o) (hc : ∀ p o, B p = some o → S2 p = S1 p) (hd : ∀ j, j ≠ i → ∀ p ∈ F j, S2 p = none)
    (hl : ∀ p ∈ ps', S2 p = none ∧ (∃ o, H2 p = some o) ∧ (p ∈ F i ∨ (B p = none ∧ ∀ j, p ∉ F j))) (ho : Own.own K S2 H2 v0 ps' y') : Kn K B S0 S2 σ H2 (upF F i ps') (G1.set i (.ow y')) := by
  have hB : ∀ p ∈ ps', B p = none := fun p hp => (hl p hp).2.2.elim (fun m => (k1.off i p m).2.1) fun m => m.1
  have hN : ∀ p ∈ ps', ∀ j, j ≠ i → p ∉ F j := fun p hp j hj m => (hl p hp).2.2.elim (fun m' => hj (k1.dj j i p m m')) fun m' => m'.2 j m
  have hFi : ∀ p o, B p = some o → p ∉ F i := fun p o e m => by rw [(k1.off i p m).2.1] at e; cases e
  refine ⟨k1.s0.trans s1, s2, fun p o e => hk p o (hFi p o e) (fun m => by rw [hB p m] at e; cases e) (k1.keep p o e), fun p o e => (hc p o e).trans (k1.clean p o e), fun j p hp => ?_, fun a b p ha hb => ?_, by rw [List.length_set]; exact k1.len, fun j s e => ?_⟩
  · by_cases c : j = i
    · rw [c, upF_self] at hp
      exact ⟨(hl p hp).1, hB p hp, (hl p hp).2.1⟩
    · rw [upF_ne c] at hp
      obtain ⟨a1, a2, o, a3⟩ := k1.off j p hp
      exact ⟨hd j c p hp, a2, o, hk p o (fun m => c (k1.dj j i p hp m)) (fun m => hN p m j c hp) a3⟩
  · by_cases ca : a = i
    · by_cases cb : b = i
      · rw [ca, cb]
      · rw [ca, upF_self] at ha
        rw [upF_ne cb] at hb
        exact absurd hb (hN p ha b cb)
    · rw [upF_ne ca] at ha
      by_cases cb : b = i
      · rw [cb, upF_self] at hb
        exact absurd ha (hN p hb a ca)
      · rw [upF_ne cb] at hb
        exact k1.dj a b p ha hb
  · rcases set_get e with ⟨rfl, rfl⟩ | ⟨ne, e⟩
    · rw [upF_self]
      exact ⟨v0, h1, ho⟩
    · rw [upF_ne ne]
      have w := k1.sl j s e
      cases s with
      | no => exact True.intro
      | im y =>
        obtain ⟨u, b1, b2⟩ := w
        exact ⟨u, b1, Py.mono s1 b2⟩
      | ow y =>
        obtain ⟨u, b1, b2⟩ := w
        refine ⟨u, b1, Own.mono s1 (fun p hp => ?_) b2⟩
        obtain ⟨_, _, o, a3⟩ := k1.off j p hp
        rw [a3]
        exact hk p o (fun m => ne (k1.dj j i p hp m)) (fun m => hN p m j ne hp) a3
theorem nd_write (k : Kn K B S0 S σ H F G) (hi : G[i]? = some (.ow z)) (hp : getT z.t p = some (.nod b s l)) {o : HO} (hn : ∀ q ∈ fpL l', q ∈ fpL l ∨ (S q = none ∧ B q = none ∧ (∀ j, q ∉ F j) ∧ ∃ o, H q = some o)) (hx : OkT K S (upd H b o) (.ref b) (.nod b s' l')) :
    Kn K B S0 S σ (upd H b o) (upF F i (z.put p (.nod b s' l')).fp) (G.set i (.ow (z.put p (.nod b s' l')))) := by
  obtain ⟨h1, h2, h3⟩ := nd_at k hi
  obtain ⟨e1, e2⟩ := Nd.put_t (s' := s') (l' := l') hp
  have hbz : b ∈ z.fp := get_in hp b (fp_nod.mpr (.inl rfl))
  have hzn : ∀ q, (∀ j, q ∉ F j) → q ∉ fpT z.t := fun q h m => h i (by rw [h2]; exact m)
  have ok : OkT K S (upd H b o) (.ref z.a) (z.put p (.nod b s' l')).t := by
    rw [e1]
    refine h3.put hp (Same.refl _) (fun q hq hnu => upd_ne fun e => hnu (fp_nod.mpr (.inl e))) (fun q hq => ?_) (fun w hw => by cases hw; exact hx)
    rcases fp_nod.mp hq with e | hq
    · exact .inl (fp_nod.mpr (.inl e))
    · rcases hn q hq with y | y
      · exact .inl (fp_nod.mpr (.inr y))
      · exact .inr (hzn q y.2.2.1)
  refine k.movedN hi h1 (Same.refl _) (fun q x e => ?_) (fun q x hq hq' e => ?_) (fun _ _ _ => rfl) (fun j _ q hq => (k.off j q hq).1) (fun q hq => ?_) ⟨rfl, ok⟩
  · rw [upd_ne fun (y : q = b) => by rw [y, (k.off i b (by rw [h2]; exact hbz)).1] at e; cases e]
    exact k.sub q x e
  · rw [upd_ne fun (y : q = b) => hq (by rw [y, h2]; exact hbz)]
    exact e
  · have hq' : q ∈ fpT (putT z.t p (.nod b s' l')) := by rw [← e1]; exact hq
    have hz : q ∈ fpT z.t → S q = none ∧ (q ∈ F i ∨ (B q = none ∧ ∀ j, q ∉ F j)) := fun h => ⟨(k.off i q (by rw [h2]; exact h)).1, .inl (by rw [h2]; exact h)⟩
    have key : S q = none ∧ (q ∈ F i ∨ (B q = none ∧ ∀ j, q ∉ F j)) := by
      rcases put_fp q hq' with h | h
      · exact hz h
      · rcases fp_nod.mp h with e | h
        · exact hz (by rw [e]; exact hbz)
        · rcases hn q h with y | y
          · exact hz (get_in hp q (fp_nod.mpr (.inr y)))
          · exact ⟨y.1, .inr ⟨y.2.1, y.2.2.1⟩⟩
    exact ⟨key.1, ok.som q hq, key.2⟩
section
variable {α : Type} [Py α] [ToD α] {vs : List V} {v : V} {x : α} {y : Tr} {n : Nat}
theorem okt_up (h : OkT K S H (.ref b) (.nod b s l)) {o : HO} {k : Nat} {w : V} {d : Tr} (hd : l[k]? = some d) (hw : OkT K S H w d) (hb : b ∉ fpL l) : OkT K S (upd H b o) w d :=
  hw.mono (Same.refl _) fun q hq => upd_ne fun e => hb (by rw [← e]; exact fp_sub (a := 0) (s := .lst) hd hq)
theorem lf_ok (r : Py.rep K S v x) : OkT K S H v (lf x) := .dat (ToD.of r)
theorem fp_setL : ∀ q ∈ fpL (l.set n (lf x)), q ∈ fpL l := fun q hq => by
  obtain ⟨d, hd, hq⟩ := mem_fpL.mp hq
  rcases List.mem_or_eq_of_mem_set hd with hd | e
  · exact mem_fpL.mpr ⟨d, hd, hq⟩
  · rw [e, lf_fp] at hq; cases hq
theorem fp_app {q : Addr} (h : q ∈ fpL (l ++ [y])) : q ∈ fpL l ∨ q ∈ fpT y := by
  obtain ⟨d, hd, hq⟩ := mem_fpL.mp h
  rcases List.mem_append.mp hd with hd | hd
  · exact .inl (mem_fpL.mpr ⟨d, hd, hq⟩)
  · rw [List.mem_singleton.mp hd] at hq; exact .inr hq
theorem fp_erase : ∀ q ∈ fpL (l.eraseIdx n), q ∈ fpL l := fun q hq => by
  obtain ⟨d, hd, hq⟩ := mem_fpL.mp hq
  exact mem_fpL.mpr ⟨d, List.mem_of_mem_eraseIdx hd, hq⟩
theorem okt_setL (h : OkT K S H (.ref b) (.nod b s l)) (hv : H b = some (hob s vs)) (hl : vs.length = l.length) (h4 : ∀ (k : Nat) w d, vs[k]? = some w → l[k]? = some d → OkT K S H w d) (r : Py.rep K S v x) : OkT K S (upd H b (hob s (vs.set n v))) (.ref b) (.nod b s (l.set n (lf x))) := by
  obtain ⟨_, _, h2, _, _, h5, h6⟩ := okt_node h
  refine .nod upd_same (by rw [List.length_set]; exact h2) (by rw [List.length_set, List.length_set]; exact hl) (fun k w d hw hd => ?_) (fun q => h5 (fp_setL b q)) (fun j k d e ne hd he q hq hq' => ?_)
  · rcases set_get hd with ⟨rfl, rfl⟩ | ⟨ne, hd⟩
    · rcases set_get hw with ⟨_, rfl⟩ | ⟨ne, _⟩
      · exact lf_ok r
      · exact absurd rfl ne
    · rw [List.getElem?_set_ne (fun z => ne z.symm)] at hw
      exact okt_up h hd (h4 k w d hw hd) h5
  · rcases set_get hd with ⟨_, rfl⟩ | ⟨_, hd⟩
    · rw [lf_fp] at hq; cases hq
    · rcases set_get he with ⟨_, rfl⟩ | ⟨_, he⟩
      · rw [lf_fp] at hq'; cases hq'
      · exact h6 j k d e ne hd he q hq hq'
theorem app_get {γ : Type} {xs : List γ} {a e : γ} {k : Nat} (h : (xs ++ [a])[k]? = some e) : (xs[k]? = some e) ∨ (k = xs.length ∧ e = a) := by
  by_cases c : k < xs.length
  · rw [List.getElem?_append_left c] at h; exact .inl h
  · rw [List.getElem?_append_right (by omega)] at h
    by_cases c2 : k - xs.length = 0
    · rw [c2] at h
      exact .inr ⟨by omega, by simpa using h.symm⟩
    · rw [List.getElem?_eq_none (by simp; omega)] at h; cases h
theorem okt_app (h : OkT K S H (.ref b) (.nod b .lst l)) (hv : H b = some (.lst vs)) (hl : vs.length = l.length) (h4 : ∀ (k : Nat) w d, vs[k]? = some w → l[k]? = some d → OkT K S H w d) (r : OkT K S H v y) (hb : b ∉ fpT y) (hd : ∀ q ∈ fpT y, q ∉ fpL l) :
    OkT K S (upd H b (.lst (vs ++ [v]))) (.ref b) (.nod b .lst (l ++ [y])) := by
  obtain ⟨_, _, _, _, _, h5, h6⟩ := okt_node h
  refine .nod (s := .lst) upd_same trivial (by rw [List.length_append, List.length_append, hl]; rfl) (fun k w d hw hd' => ?_) (fun q => ?_) (fun j k d e ne hd' he q hq hq' => ?_)
  · rcases app_get hd' with hd' | ⟨e1, rfl⟩
    · rcases app_get hw with hw | ⟨e1, rfl⟩
      · exact okt_up h hd' (h4 k w d hw hd') h5
      · have := (List.getElem?_eq_some_iff.mp hd').1; omega
    · rcases app_get hw with hw | ⟨_, rfl⟩
      · have := (List.getElem?_eq_some_iff.mp hw).1; omega
      · exact r.mono (Same.refl _) fun q hq => upd_ne fun e => hb (e ▸ hq)
  · exact (fp_app q).elim h5 hb
  · rcases app_get hd' with hd1 | ⟨e1, e3⟩
    · rcases app_get he with he1 | ⟨e2, e4⟩
      · exact h6 j k d e ne hd1 he1 q hq hq'
      · exact hd q (by rw [← e4]; exact hq') (fp_sub (a := 0) (s := .lst) hd1 hq)
    · rcases app_get he with he1 | ⟨e2, _⟩
      · exact hd q (by rw [← e3]; exact hq) (fp_sub (a := 0) (s := .lst) he1 hq')
      · omega
theorem er_get {γ : Type} {xs : List γ} {k : Nat} : (xs.eraseIdx n)[k]? = if k < n then xs[k]? else xs[k + 1]? := by rw [List.getElem?_eraseIdx]
theorem okt_erase (h : OkT K S H (.ref b) (.nod b .lst l)) (hv : H b = some (.lst vs)) (hl : vs.length = l.length) (h4 : ∀ (k : Nat) w d, vs[k]? = some w → l[k]? = some d → OkT K S H w d) : OkT K S (upd H b (.lst (vs.eraseIdx n))) (.ref b) (.nod b .lst (l.eraseIdx n)) := by
  obtain ⟨_, _, _, _, _, h5, h6⟩ := okt_node h
  refine .nod (s := .lst) upd_same trivial (by rw [List.length_eraseIdx, List.length_eraseIdx, hl]) (fun k w d hw hd => ?_) (fun q => h5 (fp_erase b q)) (fun j k d e ne hd he q hq hq' => ?_)
  · rw [er_get] at hw hd
    by_cases c : k < n
    · rw [if_pos c] at hw hd
      exact okt_up h hd (h4 k w d hw hd) h5
    · rw [if_neg c] at hw hd
      exact okt_up h hd (h4 (k + 1) w d hw hd) h5
  · rw [er_get] at hd he
    by_cases c : j < n <;> by_cases c' : k < n
    · rw [if_pos c] at hd; rw [if_pos c'] at he; exact h6 j k d e ne hd he q hq hq'
    · rw [if_pos c] at hd; rw [if_neg c'] at he; exact h6 j (k + 1) d e (by omega) hd he q hq hq'
    · rw [if_neg c] at hd; rw [if_pos c'] at he; exact h6 (j + 1) k d e (by omega) hd he q hq hq'
    · rw [if_neg c] at hd; rw [if_neg c'] at he; exact h6 (j + 1) (k + 1) d e (by omega) hd he q hq hq'
end
end
section
variable {K : Fg} {B S0 S1 S S' D : Hp} {σ : L2.St} {H H' : Hp} {F : Nat → List Addr} {G G' G1 G2 : List Sl} {ta tb te ti to tv : TE} {i j : Nat} {z : Nd} {p : List Nat} {b c : Addr} {s s' : Sh} {l l' : List Tr} {u : TS} {E : Ends} {α : Type} [Py α] [ToD α] [Bck α] {x : α}
theorem EvN.at (h : EvN K te G i z p b s l) (k : Kn K B S0 S σ H F G) : ∃ vs, H b = some (hob s vs) ∧ ShOk K l.length s ∧ vs.length = l.length ∧ (∀ (k : Nat) v c, vs[k]? = some v → l[k]? = some c → OkT K S H v c) ∧ OkT K S H (.ref b) (.nod b s l) := by
  have o := nd_node k h.1 h.2.1
  obtain ⟨vs, h1, h2, h3, h4, _⟩ := okt_node o
  exact ⟨vs, h1, h2, h3, h4, o⟩
theorem q_fldN {C dx : Addr} {ks : List Str} {f : Str} (n : Nat) (h : EvX K tv G x G) (ho : EvN K to G i z p b (.obj C dx ks) l) (hn : fIx f ks = n) (hl : n < ks.length)
    (k : ∀ z', z' = z.put p (.nod b (.obj C dx ks) (l.set n (lf x))) → At K B S0 (u E) (G.set i (.ow z'))) : At K B S0 (tSeq (sFld K to tv f) u E) G := fun S σ H F kn =>
  h B S0 S σ H F kn _ fun v S1 H1 e1 k1 r1 => ho.2.2 B S0 S1 σ H1 F k1 _ fun S2 H2 e2 k2 => by
    obtain ⟨vs, h1, h2, h3, h4, o⟩ := ho.at k2
    have hz : ks.length = vs.length := h2.1.trans h3.symm
    refine ⟨b, C, dx, _, rfl, h1, h2.2.2.1, h2.2.2.2 f (fld_mem ks (by rw [hn]; exact hl)), by rw [List.length_zip]; have := h2.2.1; have := h2.1; omega, ?_⟩
    rw [put_zip hn hl hz]
    exact k _ rfl S2 σ _ _ (nd_write k2 ho.1 ho.2.1 (o := hob (.obj C dx ks) (vs.set n v)) (fun q hq => .inl (fp_setL q hq)) (okt_setL o h1 h3 h4 (Py.mono e2 r1)))
theorem q_fldAugN {C dx : Addr} {ks : List Str} {f : Str} {m x : Int} (n : Nat) (ho : EvN K to G i z p b (.obj C dx ks) l) (h : EvX K tv G x G) (hn : fIx f ks = n) (hl : n < ks.length) (hx : l[n]? = some (lf m))
    (k : ∀ z', z' = z.put p (.nod b (.obj C dx ks) (l.set n (lf (m + x)))) → At K B S0 (u E) (G.set i (.ow z'))) : At K B S0 (tSeq (sFldAug K to tv (ipI fun i j => i + j) f) u E) G := fun S σ H F kn =>
  ho.2.2 B S0 S σ H F kn _ fun S1 H1 e1 k1 => by
    obtain ⟨fs, w, g1, g2, g3, g4, g5⟩ := fld_at k1 ho.1 ho.2.1 hn hl hx
    refine ⟨b, C, dx, fs, w, rfl, g1, g2, g3, g4, h B S0 S1 σ H1 F k1 _ fun v S2 H2 e2 k2 r2 => ?_⟩
    obtain ⟨vs, h1, h2, h3, h4, o⟩ := ho.at k2
    have hz : ks.length = vs.length := h2.1.trans h3.symm
    have ew : w = .int m := by
      unfold lf at g5
      cases g5 with
      | dat r => exact Bck.go (α := Int) r
    refine ⟨m, x, ew, r2, dx, ks.zip vs, h1, by rw [List.length_zip]; have := h2.2.1; have := h2.1; omega, ?_⟩
    rw [put_zip hn hl hz]
    exact k _ rfl S2 σ _ _ (nd_write k2 ho.1 ho.2.1 (o := hob (.obj C dx ks) (vs.set n _)) (fun q hq => .inl (fp_setL q hq)) (okt_setL o h1 h3 h4 (x := m + x) rfl))
theorem q_setN {n : Int} (h : EvX K te G x G) (ho : EvN K to G i z p b .lst l) (hi : EvX K ti G n G) (hn : 0 ≤ n ∧ n < l.length) (k : ∀ z', z' = z.put p (.nod b .lst (l.set n.toNat (lf x))) → At K B S0 (u E) (G.set i (.ow z'))) :
    At K B S0 (tSeq (tAsg te (gSub to ti rSetL)) u E) G := fun S σ H F kn =>
  h B S0 S σ H F kn _ fun v S1 H1 e1 k1 r1 => ho.2.2 B S0 S1 σ H1 F k1 _ fun S2 H2 e2 k2 => hi B S0 S2 σ H2 F k2 _ fun w S3 H3 e3 k3 r3 => by
    obtain ⟨vs, h1, h2, h3, h4, o⟩ := ho.at k3
    refine ⟨b, vs, n, n.toNat, rfl, r3, h1, ?_, k _ rfl S3 σ _ _ (nd_write k3 ho.1 ho.2.1 (o := hob .lst (vs.set n.toNat v)) (fun q hq => .inl (fp_setL q hq)) (okt_setL o h1 h3 h4 (Py.mono (e2.trans e3) r1)))⟩
    unfold ixN
    rw [if_pos hn.1, if_pos (by rw [h3]; exact hn.2)]
theorem q_augN {n m x : Int} (ho : EvN K to G i z p b .lst l) (hi : EvX K ti G n G) (h : EvX K te G x G) (hn : 0 ≤ n ∧ n < l.length) (hx : l[n.toNat]? = some (lf m)) (k : ∀ z', z' = z.put p (.nod b .lst (l.set n.toNat (lf (m + x)))) → At K B S0 (u E) (G.set i (.ow z'))) :
    At K B S0 (tSeq (tAugS to ti te (rIxL K) (ipI fun i j => i + j) rSetL) u E) G := fun S σ H F kn =>
  ho.2.2 B S0 S σ H F kn _ fun S1 H1 e1 k1 => hi B S0 S1 σ H1 F k1 _ fun w S2 H2 e2 k2 r2 => by
    obtain ⟨us, v, g1, g2, g3, g4⟩ := lst_at k2 ho.1 ho.2.1 hx
    refine ⟨b, us, n, v, rfl, r2, SqL.of g1, atI_of hn.1 g3, h B S0 S2 σ H2 F k2 _ fun y S3 H3 e3 k3 r3 => ?_⟩
    obtain ⟨vs, h1, h2, h3, h4, o⟩ := ho.at k3
    have ev : v = .int m := by
      unfold lf at g4
      cases g4 with
      | dat r => exact Bck.go (α := Int) r
    refine ⟨m, x, ev, r3, b, vs, n, n.toNat, rfl, r2, h1, ?_, k _ rfl S3 σ _ _ (nd_write k3 ho.1 ho.2.1 (o := hob .lst (vs.set n.toNat _)) (fun q hq => .inl (fp_setL q hq)) (okt_setL o h1 h3 h4 (x := m + x) rfl))⟩
    unfold ixN
    rw [if_pos hn.1, if_pos (by rw [h3]; exact hn.2)]
theorem q_appL (ho : EvN K to G i z p b .lst l) (h : EvX K te G x G) (hz : l.length < sizeLine) (k : ∀ z', z' = z.put p (.nod b .lst (l ++ [lf x])) → At K B S0 (u E) (G.set i (.ow z'))) : At K B S0 (tSeq (tDrop (tBM K "list" rAppend to (tCons te tNil))) u E) G := fun S σ H F kn =>
  ho.2.2 B S0 S σ H F kn _ fun S1 H1 e1 k1 => by
    obtain ⟨us, g1, g2, g3, g4, _⟩ := ho.at k1
    refine ⟨.inl ⟨rfl, _, SqL.of g1⟩, h B S0 S1 σ H1 F k1 _ fun v S2 H2 e2 k2 r2 => ?_⟩
    obtain ⟨vs, h1, h2, h3, h4, o⟩ := ho.at k2
    exact ⟨b, vs, v, rfl, rfl, h1, by rw [h3]; exact hz, k _ rfl S2 σ _ _ (nd_write k2 ho.1 ho.2.1 (fun q hq => (fp_app hq).elim .inl fun y => by rw [lf_fp] at y; cases y) (okt_app o h1 h3 h4 (lf_ok r2) (fun y => by rw [lf_fp] at y; cases y) fun q y => by rw [lf_fp] at y; cases y))⟩
def EvTn (K : Fg) (te : TE) (G : List Sl) (y : Tr) : Prop :=
  ∀ B S0 S σ H F, Kn K B S0 S σ H F G → ∀ Q : VK, (∀ v S' H' x, Same S S' → Kn K B S0 S' σ H' F G → erT x = y → OkT K S' H' v x → (∀ q ∈ fpT x, S' q = none ∧ B q = none ∧ (∀ j, q ∉ F j)) → Q v H') → te σ H Q
theorem en_lst {t : TA} {xs : List α} (h : EvLs K t G xs G) (hl : xs.length ≤ 1000) : EvTn K (tLst t) G (.nod 0 .lst (lvs xs)) := fun B S0 S σ H F k Q q =>
  h B S0 S σ H F k _ fun vs S1 H1 e1 k1 r1 => ⟨by rw [r1.len]; exact Nat.le_trans hl (by decide), fun a ha => by
    obtain ⟨h1, h2, h3⟩ := k1.free ha
    refine q (.ref a) S1 _ (.nod a .lst (lvs xs)) e1 (k1.raw ha) (by rw [er_nod, lvs_er]; rfl) ?_ fun q hq => ?_
    · refine .nod (vs := vs) (s := .lst) upd_same trivial (by rw [lvs_len]; exact r1.len) (fun n v c hv hc => ?_) (by rw [lvs_fp]; exact List.not_mem_nil) (fun j n c d _ hc _ q hq _ => ?_)
      · obtain ⟨x, hx, hr⟩ := r1.got hv
        unfold lvs at hc
        rw [List.getElem?_map, hx] at hc
        cases hc
        exact lf_ok hr
      · have : q ∈ fpL (lvs xs) := fp_sub (a := 0) (s := .lst) hc hq
        rw [lvs_fp] at this; cases this
    · rcases fp_nod.mp hq with e | hq
      · rw [e]; exact ⟨h1, h2, h3⟩
      · rw [lvs_fp] at hq; cases hq⟩
theorem q_appT {y : Tr} (ho : EvN K to G i z p b .lst l) (h : EvTn K te G y) (hz : l.length < sizeLine) (k : ∀ x z', erT x = y → z' = z.put p (.nod b .lst (l ++ [x])) → At K B S0 (u E) (G.set i (.ow z'))) : At K B S0 (tSeq (tDrop (tBM K "list" rAppend to (tCons te tNil))) u E) G := fun S σ H F kn =>
  ho.2.2 B S0 S σ H F kn _ fun S1 H1 e1 k1 => by
    obtain ⟨us, g1, g2, g3, g4, _⟩ := ho.at k1
    refine ⟨.inl ⟨rfl, _, SqL.of g1⟩, h B S0 S1 σ H1 F k1 _ fun v S2 H2 x e2 k2 ex ox hx => ?_⟩
    obtain ⟨vs, h1, h2, h3, h4, o⟩ := ho.at k2
    have hF := (nd_at k2 ho.1).2.1
    have off : ∀ q ∈ fpT x, q ∉ z.fp := fun q hq m => (hx q hq).2.2 i (by rw [hF]; exact m)
    exact ⟨b, vs, v, rfl, rfl, h1, by rw [h3]; exact hz, k x _ ex rfl S2 σ _ _ (nd_write k2 ho.1 ho.2.1 (fun q hq => (fp_app hq).elim .inl fun y => .inr ⟨(hx q y).1, (hx q y).2.1, (hx q y).2.2, ox.som q y⟩)
      (okt_app o h1 h3 h4 ox (fun y => off b y (get_in ho.2.1 b (fp_nod.mpr (.inl rfl)))) fun q y m => off q y (get_in ho.2.1 q (fp_nod.mpr (.inr m)))))⟩
theorem ev_popN {n : Int} (x : α) (ho : EvN K to G i z p b .lst l) (h : EvX K te G n G) (hn : 0 ≤ n ∧ n < l.length) (hl : l.length ≤ 1000000) (hx : l[n.toNat]? = some (lf x)) :
    EvMv K (tBM K "list" rPopAt to (tCons te tNil)) G (fun _ : Unit => True) (fun _ => x) (fun _ => G.set i (.ow (z.put p (.nod b .lst (l.eraseIdx n.toNat))))) := fun B S0 S σ H F kn Q q =>
  ho.2.2 B S0 S σ H F kn _ fun S1 H1 e1 k1 => by
    obtain ⟨us, g1, g2, g3, g4, _⟩ := ho.at k1
    refine ⟨.inl ⟨rfl, _, SqL.of g1⟩, h B S0 S1 σ H1 F k1 _ fun w S2 H2 e2 k2 r2 => ?_⟩
    obtain ⟨vs, h1, h2, h3, h4, o⟩ := ho.at k2
    obtain ⟨us2, v, f1, f2, f3, f4⟩ := lst_at k2 ho.1 ho.2.1 hx
    have ev : us2 = vs := by
      rw [show H2 b = some (.lst vs) from h1] at f1
      cases f1; rfl
    subst ev
    refine ⟨b, us2, n, n.toNat, v, rfl, by rw [show w = .int n from r2], h1, by have := hn.1; omega, by have := hn.2; omega, ?_, f3, q () True.intro v S2 _ _ (e1.trans e2) (nd_write k2 ho.1 ho.2.1 (fun q hq => .inl (fp_erase q hq)) (okt_erase o h1 h3 h4)) ?_⟩
    · unfold seqIndex?
      have e1 : (decide (0 ≤ n) && decide (n < (us2.length : Int))) = true := by rw [decide_eq_true hn.1, decide_eq_true (show n < (us2.length : Int) by rw [h3]; exact hn.2)]; rfl
      rw [if_neg (show ¬ n < 0 by omega)]
      exact if_pos e1
    · unfold lf at f4
      cases f4 with
      | dat r => exact Bck.go r
end
end GL
namespace GL
open PySem PySem.Spec PyProof.Rows L2
class Shp (μ : Type) where
  rel : Nd → μ → Prop
structure Ob (μ : Type) where
  a : Addr
  m : μ
instance {μ : Type} [Shp μ] : Own (Ob μ) := ⟨fun K S H v ps x => ∃ z : Nd, z.a = x.a ∧ Shp.rel z x.m ∧ Own.own K S H v ps z, fun e a ⟨z, h1, h2, h3⟩ => ⟨z, h1, h2, Own.mono e a h3⟩⟩
class Rad (ω : Type) [Own ω] where
  ra : ω → Addr
  at_ : ∀ {K : Fg} {S H : Hp} {v : V} {ps : List Addr} {x : ω}, Own.own K S H v ps x → v = .ref (ra x)
instance : Rad Nd := ⟨Nd.a, own_ref⟩
instance {μ : Type} [Shp μ] : Rad (Ob μ) := ⟨Ob.a, fun ⟨z, h1, _, h3⟩ => by rw [own_ref h3, h1]⟩
instance : Rad Spr := ⟨Spr.a, fun ⟨h, _⟩ => h⟩
instance {C : Addr} : Rad (Car C) := ⟨Car.a, fun ⟨h, _⟩ => h⟩
instance {α : Type} [Py α] [ToD α] : Shp (List α) := ⟨fun z xs => z.s = .lst ∧ z.l = lvs xs⟩
section
variable {K : Fg} {B S0 S1 S S' D : Hp} {σ : L2.St} {H H' : Hp} {F : Nat → List Addr} {G G' G1 G2 : List Sl} {ta tb te ti to tv : TE} {i j : Nat} {u : TS} {E : Ends} {P : L2.St → Hp → Prop}
theorem Kn.swap {ω η : Type} [Own ω] [Own η] {x : ω} {y : η} (k : Kn K B S0 S σ H F G) (hi : G[i]? = some (.ow x)) (h : ∀ v, Own.own K S H v (F i) x → Own.own K S H v (F i) y) : Kn K B S0 S σ H F (G.set i (.ow y)) := by
  refine ⟨k.s0, k.sub, k.keep, k.clean, k.off, k.dj, by rw [List.length_set]; exact k.len, fun j s e => ?_⟩
  rcases set_get e with ⟨rfl, rfl⟩ | ⟨ne, e⟩
  · obtain ⟨v, h1, h2⟩ := k.ow hi
    exact ⟨v, h1, h v h2⟩
  · exact k.sl j s e
section
variable {μ : Type} [Shp μ] {x : Ob μ} {z : Nd} {m : μ}
theorem q_open (i : Nat) (hi : G[i]? = some (.ow x)) (k : ∀ z : Nd, z.a = x.a → Shp.rel z x.m → At K B S0 P (G.set i (.ow z))) : At K B S0 P G := fun S σ H F kn => by
  obtain ⟨v, h1, z, e1, e2, e3⟩ := kn.ow hi
  refine k z e1 e2 S σ H F ⟨kn.s0, kn.sub, kn.keep, kn.clean, kn.off, kn.dj, by rw [List.length_set]; exact kn.len, fun j s e => ?_⟩
  rcases set_get e with ⟨rfl, rfl⟩ | ⟨ne, e⟩
  · exact ⟨v, h1, e3⟩
  · exact kn.sl j s e
theorem kn_close (k : Kn K B S0 S σ H F G) (hi : G[i]? = some (.ow z)) (hr : Shp.rel z m) : Kn K B S0 S σ H F (G.set i (.ow (Ob.mk z.a m))) := k.swap hi fun v h => ⟨z, rfl, hr, h⟩
theorem q_close (i : Nat) (hi : G[i]? = some (.ow z)) (hr : Shp.rel z m) (k : At K B S0 P (G.set i (.ow (Ob.mk z.a m)))) : At K B S0 P G := fun S σ H F kn => k S σ H F (kn_close kn hi hr)
theorem rt_close {α : Type} [Py α] {rt : VK} {y : α} (i : Nat) (hi : G[i]? = some (.ow z)) (hr : Shp.rel z m) (k : RT K B S0 rt y (G.set i (.ow (Ob.mk z.a m)))) : RT K B S0 rt y G := fun S σ H F v kn r => k S σ H F v (kn_close kn hi hr) r
end
theorem EvL.tn {α : Type} [Py α] [ToD α] {xs : List α} (h : EvL K te G xs G) : EvTn K te G (.nod 0 .lst (lvs xs)) := fun B S0 S σ H F k Q q =>
  h B S0 S σ H F k _ fun p vs S1 H1 e1 k1 hs hb hf hp r1 => by
    refine q (.ref p) S1 H1 (.nod p .lst (lvs xs)) e1 k1 (by rw [er_nod, lvs_er]; rfl) ?_ fun q hq => ?_
    · refine .nod (vs := vs) (s := .lst) hp trivial (by rw [lvs_len]; exact r1.len) (fun n v c hv hc => ?_) (by rw [lvs_fp]; exact List.not_mem_nil) (fun j n c d _ hc _ q hq _ => ?_)
      · obtain ⟨x, hx, hr⟩ := r1.got hv
        unfold lvs at hc
        rw [List.getElem?_map, hx] at hc
        cases hc
        exact lf_ok hr
      · have : q ∈ fpL (lvs xs) := fp_sub (a := 0) (s := .lst) hc hq
        rw [lvs_fp] at this; cases this
    · rcases fp_nod.mp hq with e | hq
      · rw [e]; exact ⟨hs, hb, hf⟩
      · rw [lvs_fp] at hq; cases hq
theorem en_lcE {α : Type} [Py α] {wi : TI} {g : TG} {vs : List Nat} {xs : List α} (hi : ItG K wi G xs G) (hl : xs.length ≤ 1000000) (hs : ∀ x, x ∈ xs → ∃ G2 ts, TgG K g x (wipeG G vs) G2 ts ∧ ∀ t ∈ ts, t ∈ vs) :
    EvTn K (tLc wi g tYes (tLst tNil) vs) G (.nod 0 .lst (List.replicate xs.length (.nod 0 .lst []))) := fun B S0 S σ H F k Q q =>
  hi B S0 S σ H F k _ fun J S1 H1 e1 k1 wk => fun D hD => by
    obtain ⟨d1, d2, d3⟩ := k1.free hD
    refine ⟨fun i m H => ∃ (pre post : List α) (S : Hp) (qs : List Addr), pre ++ post = xs ∧ pre.length = i ∧ post.length = m ∧ Kn K B S0 S σ H F G ∧ Same S1 S ∧ S D = none ∧ H D = some (.lst (qs.map V.ref)) ∧ qs.length = i ∧ qs.Nodup ∧ ∀ q ∈ qs, H q = some (.lst []) ∧ S q = none ∧ B q = none ∧ (∀ j, q ∉ F j) ∧ q ≠ D,
      ⟨xs.length, [], xs, S1, [], rfl, rfl, rfl, k1.raw hD, Same.refl _, d1, upd_same, rfl, List.nodup_nil, fun q hq => nomatch hq⟩, ?_⟩
    rintro i m H2 ⟨pre, post, S2, qs, ex, rfl, rfl, k2, s2, dS, hD2, hql, hnd, hq⟩
    cases post with
    | nil =>
      refine .inl ⟨(wk S2 H2 pre.length s2 k2.sub).2 (by rw [← ex, List.append_nil]; exact Nat.le_refl _), ?_⟩
      rw [List.append_nil] at ex
      subst ex
      refine q (.ref D) S2 H2 (.nod D .lst (qs.map fun a => .nod a .lst [])) (e1.trans s2) k2 ?_ ?_ fun a ha => ?_
      · rw [er_nod, List.map_map, ← hql]
        show Tr.nod 0 .lst (qs.map fun a => erT (.nod a .lst [])) = _
        congr 1
        rw [show (fun a => erT (.nod a .lst [])) = fun _ : Addr => Tr.nod 0 .lst [] from funext fun a => by rw [er_nod]; rfl]
        clear hnd hq hql hD2
        induction qs with
        | nil => rfl
        | cons a qs ih => rw [List.map_cons, List.length_cons, List.replicate_succ, ih]
      · refine .nod (vs := qs.map V.ref) (s := .lst) hD2 trivial (by rw [List.length_map, List.length_map]) (fun n v c hv hc => ?_) (fun m => ?_) (fun j n c d ne hc hd a ha ha' => ?_)
        · rw [List.getElem?_map] at hv hc
          cases e : qs[n]? with
          | none => rw [e] at hv; cases hv
          | some a =>
            rw [e] at hv hc
            cases hv
            cases hc
            exact .nod (vs := []) (s := .lst) (hq a (List.mem_of_getElem? e)).1 trivial rfl (fun n v c hv => by simp at hv) (by unfold fpL; exact List.not_mem_nil) (fun j k c d _ hc => by simp at hc)
        · obtain ⟨c, hc, hm⟩ := mem_fpL.mp m
          obtain ⟨a, ha, rfl⟩ := List.mem_map.mp hc
          rcases fp_nod.mp hm with e | hm
          · exact (hq a ha).2.2.2.2 e.symm
          · unfold fpL at hm; cases hm
        · rw [List.getElem?_map] at hc hd
          cases ej : qs[j]? with
          | none => rw [ej] at hc; cases hc
          | some x =>
            cases en : qs[n]? with
            | none => rw [en] at hd; cases hd
            | some y =>
              rw [ej] at hc
              rw [en] at hd
              cases hc
              cases hd
              have h1 : a = x := (fp_nod.mp ha).elim id fun h => by unfold fpL at h; cases h
              have h2 : a = y := (fp_nod.mp ha').elim id fun h => by unfold fpL at h; cases h
              have h4 : qs[j]? = qs[n]? := ej.trans ((congrArg some (h1.symm.trans h2)).trans en.symm)
              exact ne ((List.getElem?_inj (List.getElem?_eq_some_iff.mp ej).1 hnd).mp h4)
      · rcases fp_nod.mp ha with e | ha
        · rw [e]; exact ⟨dS, d2, d3⟩
        · obtain ⟨c, hc, hm⟩ := mem_fpL.mp ha
          obtain ⟨b, hb, rfl⟩ := List.mem_map.mp hc
          rcases fp_nod.mp hm with e | hm
          · rw [e]; exact ⟨(hq b hb).2.1, (hq b hb).2.2.1, (hq b hb).2.2.2.1⟩
          · unfold fpL at hm; cases hm
    | cons x post =>
      have hx : xs[pre.length]? = some x := by
        rw [← ex, List.getElem?_append_right (Nat.le_refl _), Nat.sub_self]
        rfl
      obtain ⟨go, yl⟩ := (wk S2 H2 pre.length s2 k2.sub).1 x hx
      refine .inr ⟨go, fun H => ∃ (S : Hp) (qs : List Addr), Kn K B S0 S σ H F G ∧ Same S1 S ∧ S D = none ∧ H D = some (.lst (qs.map V.ref)) ∧ qs.length = (pre ++ [x]).length ∧ qs.Nodup ∧ ∀ q ∈ qs, H q = some (.lst []) ∧ S q = none ∧ B q = none ∧ (∀ j, q ∉ F j) ∧ q ≠ D, ?_, ?_⟩
      · rintro H3 ⟨S3, qs3, k3, s3, c1, c2, c3, c4, c5⟩
        exact ⟨post.length, by rw [List.length_cons]; omega, pre ++ [x], post, S3, qs3, by rw [← ex, List.append_assoc]; rfl, by rw [List.length_append]; rfl, rfl, k3, s3, c1, c2, by rw [c3, List.length_append]; rfl, c4, c5⟩
      · intro v H3 y
        obtain ⟨S3, gr, r⟩ := yl v H3 y
        obtain ⟨G2, ts, tg, hts⟩ := hs x (List.mem_of_getElem? hx)
        have k3 := k2.grow gr
        have hD3 := gr.h D _ hD2
        have dS3 : S3 D = none := (gr.cl D _ hD2).trans dS
        refine tg.2 B S0 S3 _ H3 F v (k3.wipe vs) r _ fun σ4 k4 o4 w4 => ⟨?_, ?_⟩
        · rw [w4 vs hts]
          apply List.ext_getElem?
          intro j
          rw [wipe_get, wipe_get, wipe_length]
          by_cases c : j ∈ vs ∧ j < σ.length
          · rw [if_pos c, if_pos c]
          · rw [if_neg c, if_neg c]
        · unfold tYes
          dsimp only
          rw [if_pos rfl]
          refine ⟨by show 0 ≤ sizeLine; decide, fun p hp => ?_⟩
          have nD : p ≠ D := fun e => by rw [e, hD3] at hp; cases hp
          have hpf := k3.free hp
          have hlen : pre.length < 1000000 := by
            have := congrArg List.length ex
            rw [List.length_append, List.length_cons] at this
            omega
          refine ⟨qs.map V.ref, by rw [upd_ne nD.symm]; exact hD3, by rw [List.length_map, hql]; exact Nat.lt_of_lt_of_le hlen (by decide), S3, qs ++ [p], (k3.raw hp).poke dS3 d2 d3, s2.trans gr.s, dS3, by rw [upd_same, List.map_append]; rfl, by rw [List.length_append, List.length_append, hql]; rfl, ?_, fun a ha => ?_⟩
          · rw [List.nodup_append]
            refine ⟨hnd, by simp, fun a ha b hb e => ?_⟩
            rw [List.mem_singleton.mp hb] at e
            have := gr.h a _ (hq a ha).1
            rw [e, hp] at this
            cases this
          · rcases List.mem_append.mp ha with ha | ha
            · obtain ⟨g1, g2, g3, g4, g5⟩ := hq a ha
              have g1' := gr.h a _ g1
              refine ⟨by rw [upd_ne g5, upd_ne (ne_of_none g1' hp)]; exact g1', (gr.cl a _ g1).trans g2, g3, g4, g5⟩
            · rw [List.mem_singleton.mp ha]
              exact ⟨by rw [upd_ne nD, upd_same], hpf.1, hpf.2.1, hpf.2.2, nD⟩
end
end GL
namespace GL
open PySem PySem.Spec PyProof.Rows L2
structure Went (ps ps' : List Addr) (S H S' H' : Hp) : Prop where
  s : Same S S'
  sub : Same S' H'
  h : ∀ p o, p ∉ ps → H p = some o → H' p = some o
  cl : ∀ p o, p ∉ ps → H p = some o → S' p = S p
  off : ∀ p ∈ ps', S' p = none ∧ (∃ o, H' p = some o) ∧ (p ∈ ps ∨ H p = none)
section
variable {K : Fg} {S H : Hp} {ω α : Type} [Own ω] [Sls α]
theorem start_knR {v0 : V} {ps : List Addr} {z : ω} {vs : List V} {a : α} {N : List Str} (e : Same S H) (ho : Own.own K S H v0 ps z) (hps : ∀ p ∈ ps, S p = none ∧ ∃ o, H p = some o) (r : PyA.rep K S vs a) :
    Kn K (fun p => if p ∈ ps then none else H p) S S (L2.start N (v0 :: vs)) H (fun i => if i = 0 then ps else []) (.ow z :: Sls.sls a ++ List.replicate (N.length - (PyA.n α + 1)) .no) := by
  obtain ⟨l, q⟩ := Sls.ok (H := H) r
  have hn := PyA.len r
  refine ⟨Same.refl _, e, fun p o hp => ?_, fun _ _ _ => rfl, fun i p hp => ?_, fun i j p hp hp' => ?_, ?_, fun i s hi => ?_⟩
  · by_cases m : p ∈ ps
    · rw [if_pos m] at hp
      cases hp
    · rw [if_neg m] at hp
      exact hp
  · by_cases c : i = 0
    · rw [if_pos c] at hp
      exact ⟨(hps p hp).1, if_pos hp, (hps p hp).2⟩
    · rw [if_neg c] at hp
      cases hp
  · by_cases c : i = 0
    · by_cases c' : j = 0
      · rw [c, c']
      · rw [if_neg c'] at hp'
        cases hp'
    · rw [if_neg c] at hp
      cases hp
  · unfold L2.start
    rw [List.length_append, List.length_append, List.length_map, List.length_replicate, List.length_replicate, List.length_cons, List.length_cons, l, hn]
  · unfold L2.start
    cases i with
    | zero =>
      simp only [List.cons_append, List.getElem?_cons_zero, Option.some.injEq] at hi
      subst hi
      exact ⟨v0, rfl, ho⟩
    | succ i =>
      simp only [List.cons_append, List.getElem?_cons_succ, List.map_cons] at hi ⊢
      by_cases c : i < (Sls.sls a).length
      · rw [List.getElem?_append_left c] at hi
        rw [List.getElem?_append_left (by rw [List.length_map, ← l]; exact c)]
        have := q i s hi
        rw [if_neg (Nat.succ_ne_zero i)]
        exact this
      · rw [List.getElem?_append_right (by omega)] at hi
        have : s = .no := by
          have := List.mem_of_getElem? hi
          exact List.eq_of_mem_replicate this
        subst this
        exact True.intro
end
def spOR {ω α β : Type} [Own ω] [PyA α] [Py β] (K : Fg) (Y : XC → Addr) (R : ω → α → β → ω → Prop) (Rf : ω → α → XC → Prop) (pre : ω → α → Prop) : Sp := fun vs H Q E => ∃ (S : Hp) (v0 : V) (ws : List V) (ps : List Addr) (z : ω) (a : α), vs = v0 :: ws ∧ Same S H ∧ Own.own K S H v0 ps z ∧
  (∀ p ∈ ps, S p = none ∧ ∃ o, H p = some o) ∧ PyA.rep K S ws a ∧ pre z a ∧ (∀ v S' H' ps' y z', R z a y z' → Went ps ps' S H S' H' → Own.own K S' H' v0 ps' z' → Py.rep K S' v y → Q v H') ∧
  ∀ e S' H' ps', Rf z a e → Went ps ps' S H S' H' → Own.own K S' H' v0 ps' z → E (.ref (Y e)) none H'
def spT {μ α β : Type} [Shp μ] [PyA α] [Py β] (K : Fg) (Y : XC → Addr) (f : μ → α → XC ⊕ (β × μ)) (pre : μ → α → Prop) : Sp :=
  spOR K Y (fun (x : Ob μ) (a : α) (y : β) (x' : Ob μ) => f x.m a = .inr (y, x'.m) ∧ x'.a = x.a) (fun x a e => f x.m a = .inl e) (fun x a => pre x.m a)
section
variable {K : Fg} {B S0 S1 S S' D : Hp} {σ : L2.St} {H H' : Hp} {F : Nat → List Addr} {G G' G1 G2 : List Sl} {ta te : TE} {i j : Nat} {t : TA} {u : TS} {E : Ends} {Y : XC → Addr} {W : WX} {m : Str}
theorem set_own {ω : Type} [Own ω] {z : ω} (hi : G[i]? = some (.ow z)) : G.set i (.ow z) = G := by
  apply List.ext_getElem?
  intro n
  by_cases c : i = n
  · subst c
    rw [List.getElem?_set_self (List.getElem?_eq_some_iff.mp hi).1, hi]
  · rw [List.getElem?_set_ne c]
section
variable {ω α β : Type} [Own ω] [PyA α] [Py β] {z z1 : ω} {a : α} {R : ω → α → β → ω → Prop} {Rf : ω → α → XC → Prop} {pre : ω → α → Prop}
theorem callOR {Q : VK} {EE : XK} {vs : List V} {v0 : V} (k1 : Kn K B S0 S1 σ H F G1) (h1 : σ[i]? = some (some v0)) (hi1 : G1[i]? = some (.ow z1)) (r1 : PyA.rep K S1 vs a) (hp : pre z1 a)
    (ok : ∀ y z', R z1 a y z' → ∀ v S' H' F', Same S1 S' → Kn K B S0 S' σ H' F' (G1.set i (.ow z')) → Py.rep K S' v y → Q v H') (er : ∀ e, Rf z1 a e → ∀ S' H' F', Kn K B S0 S' σ H' F' G1 → EE (.ref (Y e)) none H') : spOR K Y R Rf pre (v0 :: vs) H Q EE := by
  obtain ⟨v1, h3, h4⟩ := k1.ow hi1
  rw [h1] at h3
  cases h3
  refine ⟨S1, v0, vs, F i, z1, a, rfl, k1.sub, h4, fun p hp => ⟨(k1.off i p hp).1, (k1.off i p hp).2.2⟩, r1, hp, fun v S2 H2 ps' y z' hR w ho r2 => ok y z' hR v S2 H2 _ w.s (k1.moved hi1 h1 w.s w.sub w.h w.cl w.off ho) r2, fun e S2 H2 ps' hf w ho => er e hf S2 H2 (upF F i ps') ?_⟩
  have := k1.moved (z' := z1) hi1 h1 w.s w.sub w.h w.cl w.off ho
  rw [set_own hi1] at this
  exact this
theorem body_spOR {α : Type} [Sls α] [Rad ω] {N : List Str} {R : ω → α → β → ω → Prop} {Rf : ω → α → XC → Prop} {pre : ω → α → Prop} {t : TS} {H : Hp} {vs : List V} {Q : VK} {E : XK} (sp : spOR K Y R Rf pre vs H Q E)
    (h2 : ∀ (z : ω) (a : α), pre z a → ∀ (B S0 : Hp) (Q : VK), (∀ (G' : List Sl) y (z' : ω), G'[0]? = some (.ow z') → Rad.ra z' = Rad.ra z → R z a y z' → RT K B S0 Q y G') → (∀ (G' : List Sl) e (z' : ω), G'[0]? = some (.ow z') → z' = z → Rf z a e → At K B S0 (fun _ H' => E (.ref (Y e)) none H') G') →
      At K B S0 (t { nx := fun _ H' => Q .non H', rt := Q }) (.ow z :: Sls.sls a ++ List.replicate (N.length - (PyA.n α + 1)) .no)) : t { nx := fun _ H' => Q .non H', rt := Q } (L2.start N vs) H := by
  obtain ⟨S', v0, ws, qs, z, a, e, es, ho, hqs, r, hp, q, qe⟩ := sp
  subst e
  have went : ∀ {S1 σ1 H1 F1 G'}, Kn K (fun p => if p ∈ qs then none else H p) S' S1 σ1 H1 F1 G' → Went qs (F1 0) S' H S1 H1 := fun k1 =>
    ⟨k1.s0, k1.sub, fun p o m e => k1.keep p o (by rw [if_neg m]; exact e), fun p o m e => k1.clean p o (by rw [if_neg m]; exact e), fun p m => by
      obtain ⟨a1, a2, a3⟩ := k1.off 0 p m
      refine ⟨a1, a3, ?_⟩
      by_cases c : p ∈ qs
      · exact .inl c
      · rw [if_neg c] at a2
        exact .inr a2⟩
  refine h2 z a hp _ S' Q (fun G' y z' hz ea hR S1 σ1 H1 F1 v k1 r1 => ?_) (fun G' x z' hz ez hf S1 σ1 H1 F1 k1 => ?_) S' _ H _ (start_knR (N := N) es ho hqs r)
  · obtain ⟨v1, _, o1⟩ := k1.ow hz
    have ev : v1 = v0 := by rw [Rad.at_ o1, Rad.at_ ho, ea]
    rw [ev] at o1
    exact q v S1 H1 (F1 0) y z' hR (went k1) o1 r1
  · subst ez
    obtain ⟨v1, _, o1⟩ := k1.ow hz
    have ev : v1 = v0 := by rw [Rad.at_ o1, Rad.at_ ho]
    rw [ev] at o1
    exact qe x S1 H1 (F1 0) hf (went k1) o1
theorem mdef_spOR {P : Program} {w : World} {mg : Str → Option Value} {base : Heap} {C : Addr} {α : Type} [Sls α] [Rad ω] {R : ω → α → β → ω → Prop} {Rf : ω → α → XC → Prop} {pre : ω → α → Prop} {x q : Str} {st : Stmt} {N ps : List Str} {k : Nat} (D : MDef K C x q st ps) (S : FnScope N ps (defScope st)) (hn : PyA.n α + 1 = ps.length)
    (h : ∀ (fa : Addr) (cdv : Value) (A : Around) (outer : List Env) (s : Shared) (H : Hp) (E : XK), Room k (A.deeper (envOfC q (defScope st) s.heap.objs.size fa cdv)) →
      ∃ t, PSs (cxOf (L2.CX P w) P w K mg base N q (defScope st) fa cdv A outer s H E) (defBody st) t ∧
        ∀ (z : ω) (a : α), pre z a → ∀ (B S0 : Hp) (Q : VK), (∀ (G' : List Sl) y (z' : ω), G'[0]? = some (.ow z') → Rad.ra z' = Rad.ra z → R z a y z' → RT K B S0 Q y G') → (∀ (G' : List Sl) e (z' : ω), G'[0]? = some (.ow z') → z' = z → Rf z a e → At K B S0 (fun _ H' => E (.ref (Y e)) none H') G') →
          At K B S0 (t { nx := fun _ H' => Q .non H', rt := Q }) (.ow z :: Sls.sls a ++ List.replicate (N.length - (PyA.n α + 1)) .no)) :
    MCalX P w K mg base (k + 1) C x ps (spOR K Y R Rf pre) := by
  obtain ⟨fa, fd, m, Fu, b⟩ := D.ex
  refine ⟨fa, fd, m, Fu.okX S (fun vs H Q E ⟨S, v0, ws, qs, z, a, e, _, _, _, r, _⟩ => by rw [e, List.length_cons, PyA.len r]; exact hn) fun cdv A outer s H vs Q E hr sp => ?_, b⟩
  obtain ⟨t, h1, h2⟩ := h fa cdv A outer s H E hr
  exact ⟨t, h1, body_spOR sp h2⟩
end
class ObS (μ : Type) [Shp μ] (C : outParam Addr) (ks : outParam (List Str)) : Prop where
  ob : ∀ {z : Nd} {m : μ}, Shp.rel z m → ∃ dx, z.s = .obj C dx ks
section
variable {μ α β : Type} [Shp μ] {C : Addr} {ks : List Str} [ObS μ C ks] [PyA α] [Py β] {x x1 : Ob μ} {a : α} {f : μ → α → XC ⊕ (β × μ)} {pre : μ → α → Prop}
theorem ob_at (k : Kn K B S0 S σ H F G) (hi : G[i]? = some (.ow x)) : σ[i]? = some (some (.ref x.a)) ∧ ∃ dx vs, H x.a = some (.ins C dx (ks.zip vs)) := by
  obtain ⟨v, h1, z, e1, e2, e3⟩ := k.ow hi
  have ev := own_ref e3
  rw [ev, e1] at h1
  obtain ⟨dx, es⟩ := ObS.ob e2
  obtain ⟨vs, g1, _⟩ := okt_node (show OkT K S H (.ref z.a) (.nod z.a z.s z.l) by have := e3.2; rw [ev] at this; exact this)
  rw [es, e1] at g1
  exact ⟨h1, dx, vs, g1⟩
theorem ob_eq {x' : Ob μ} {a : Addr} {m : μ} (h1 : x'.m = m) (h2 : x'.a = a) : x' = Ob.mk a m := by cases x'; cases h1; cases h2; rfl
theorem mcall (hm : m ∉ ks) (hi : G[i]? = some (.ow x)) (ha : EvA K t G a G1) (hi1 : G1[i]? = some (.ow x1)) (ex : x1.a = x.a) (hp : pre x1.m a) {EE : L2.St → XK} {Q : VK} (kn : Kn K B S0 S σ H F G)
    (ok : ∀ y n, f x1.m a = .inr (y, n) → ∀ v S' H' F', Same S S' → Kn K B S0 S' σ H' F' (G1.set i (.ow (Ob.mk x.a n))) → Py.rep K S' v y → Q v H') (er : ∀ e, f x1.m a = .inl e → ∀ S' H' F', Kn K B S0 S' σ H' F' G1 → EE σ (.ref (Y e)) none H') : tMethW C m (spT K Y f pre) EE (tVar i) t σ H Q := by
  obtain ⟨h1, dx, vs0, h2⟩ := ob_at kn hi
  refine ⟨.ref x.a, h1, x.a, dx, _, rfl, h2, look_none hm, ha B S0 S σ H F kn _ fun vs S1 H1 e1 k1 r1 => ?_⟩
  refine callOR k1 h1 hi1 r1 hp (fun y x' hR v S' H' F' s k r => ?_) fun e hf S' H' F' k => er e hf S' H' F' k
  have ee := ob_eq rfl (hR.2.trans ex)
  rw [ee] at k
  exact ok y x'.m hR.1 v S' H' F' (e1.trans s) k r
theorem q_methT (hm : m ∉ ks) (hi : G[i]? = some (.ow x)) (ha : EvA K t G a G1) (hi1 : G1[i]? = some (.ow x1)) (ex : x1.a = x.a) (hp : pre x1.m a) (ok : ∀ y n, f x1.m a = .inr (y, n) → At K B S0 (u E) (G1.set i (.ow (Ob.mk x.a n)))) (er : ∀ e, f x1.m a = .inl e → At K B S0 (W (.ref (Y e)) none) G1) :
    At K B S0 (tSeq (tDrop (tMethW C m (spT K Y f pre) (WE W) (tVar i) t)) u E) G := fun S σ H F kn =>
  mcall hm hi ha hi1 ex hp kn (fun y n e v S' H' F' s k r => ok y n e S' σ H' F' k) fun e hf S' H' F' k => er e hf S' σ H' F' k
end
def spMk {μ α : Type} [Shp μ] [PyA α] (K : Fg) (Y : XC → Addr) (C : Addr) (f : α → μ) (pre : α → Prop) : Sp :=
  spOR K Y (fun (z : Nd) (a : α) (_ : Unit) (z' : Nd) => Shp.rel z' (f a) ∧ z'.a = z.a) (fun _ _ _ => False) (fun z a => (∃ dx, z = ⟨z.a, .obj C dx [], []⟩) ∧ Cls K C ∧ pre a)
end
end GL
namespace GL
open PySem PySem.Spec PyProof.Rows L2
section
variable {K : Fg} {B S0 S1 S S' D : Hp} {σ : L2.St} {H H' : Hp} {F : Nat → List Addr} {G G' G1 G2 : List Sl} {ta te tv : TE} {i j : Nat} {t : TA} {u : TS} {E : Ends} {z : Nd} {b : Addr} {l : List Tr} {vs : List V} {v : V} {y : Tr}
theorem okt_snoc {C dx : Addr} {ks : List Str} {f : Str} (h : OkT K S H (.ref b) (.nod b (.obj C dx ks) l)) (hv : H b = some (.ins C dx (ks.zip vs))) (hl : vs.length = l.length) (h4 : ∀ (k : Nat) w d, vs[k]? = some w → l[k]? = some d → OkT K S H w d) (r : OkT K S H v y) (hb : b ∉ fpT y) (hd : ∀ q ∈ fpT y, q ∉ fpL l)
    (na : NoAttr K C f) (cl : Cls K C) (hk : ks.length < 900) (hf : f ∉ ks) : OkT K S (upd H b (.ins C dx (putF f v (ks.zip vs)))) (.ref b) (.nod b (.obj C dx (ks ++ [f])) (l ++ [y])) := by
  obtain ⟨_, _, h2, _, _, h5, h6⟩ := okt_node h
  have hkl : ks.length = vs.length := h2.1.trans hl.symm
  rw [put_snoc hf hkl]
  refine .nod (s := .obj C dx (ks ++ [f])) (vs := vs ++ [v]) upd_same ⟨by rw [List.length_append, List.length_append, h2.1]; rfl, by rw [List.length_append, List.length_singleton]; have := h2.1; omega, cl, fun k hk => (List.mem_append.mp hk).elim (h2.2.2.2 k) fun e => by rw [List.mem_singleton.mp e]; exact na⟩
    (by rw [List.length_append, List.length_append, hl]; rfl) (fun k w d hw hd' => ?_) (fun q => ?_) (fun j k d e ne hd' he q hq hq' => ?_)
  · rcases app_get hd' with hd' | ⟨e1, rfl⟩
    · rcases app_get hw with hw | ⟨e1, rfl⟩
      · exact okt_up h hd' (h4 k w d hw hd') h5
      · have := (List.getElem?_eq_some_iff.mp hd').1; omega
    · rcases app_get hw with hw | ⟨_, rfl⟩
      · have := (List.getElem?_eq_some_iff.mp hw).1; omega
      · exact r.mono (Same.refl _) fun q hq => upd_ne fun e => hb (e ▸ hq)
  · exact (fp_app q).elim h5 hb
  · rcases app_get hd' with hd1 | ⟨e1, e3⟩
    · rcases app_get he with he1 | ⟨e2, e4⟩
      · exact h6 j k d e ne hd1 he1 q hq hq'
      · exact hd q (by rw [← e4]; exact hq') (fp_sub (a := 0) (s := .lst) hd1 hq)
    · rcases app_get he with he1 | ⟨e2, _⟩
      · exact hd q (by rw [← e3]; exact hq) (fp_sub (a := 0) (s := .lst) he1 hq')
      · omega
theorem q_fnew {α : Type} [Py α] [ToD α] {x : α} {a C dx : Addr} {ks : List Str} {f : Str} (h : EvX K tv G x G) (hi : G[i]? = some (.ow (Nd.mk a (.obj C dx ks) l))) (na : NoAttr K C f) (cl : Cls K C) (hk : ks.length < 900) (hf : f ∉ ks)
    (k : At K B S0 (u E) (G.set i (.ow (Nd.mk a (.obj C dx (ks ++ [f])) (l ++ [lf x]))))) : At K B S0 (tSeq (sFld K (tVar i) tv f) u E) G := fun S σ H F kn =>
  h B S0 S σ H F kn _ fun v S1 H1 e1 k1 r1 => by
    have hn := en_root (K := K) hi
    obtain ⟨h1, h2, h3⟩ := nd_at k1 hi
    obtain ⟨vs, g1, g2, g3, g4, o⟩ := hn.at k1
    exact ⟨.ref a, h1, a, C, dx, _, rfl, g1, cl, na, by rw [List.length_zip]; omega, k S1 σ _ _ (nd_write k1 hi (p := []) (s' := .obj C dx (ks ++ [f])) (l' := l ++ [lf x]) rfl (fun q hq => (fp_app hq).elim .inl fun y => by rw [lf_fp] at y; cases y)
      (okt_snoc o g1 g3 g4 (lf_ok r1) (fun y => by rw [lf_fp] at y; cases y) (fun q y => by rw [lf_fp] at y; cases y) na cl hk hf))⟩
theorem q_fnewT {y : Tr} {a C dx : Addr} {ks : List Str} {f : Str} (h : EvTn K tv G y) (hi : G[i]? = some (.ow (Nd.mk a (.obj C dx ks) l))) (na : NoAttr K C f) (cl : Cls K C) (hk : ks.length < 900) (hf : f ∉ ks)
    (k : ∀ x, erT x = y → At K B S0 (u E) (G.set i (.ow (Nd.mk a (.obj C dx (ks ++ [f])) (l ++ [x]))))) : At K B S0 (tSeq (sFld K (tVar i) tv f) u E) G := fun S σ H F kn =>
  h B S0 S σ H F kn _ fun v S1 H1 x e1 k1 ex ox hx => by
    have hn := en_root (K := K) hi
    obtain ⟨h1, h2, h3⟩ := nd_at k1 hi
    obtain ⟨vs, g1, g2, g3, g4, o⟩ := hn.at k1
    have off : ∀ q ∈ fpT x, q ∉ (Nd.mk a (.obj C dx ks) l).fp := fun q hq m => (hx q hq).2.2 i (by rw [h2]; exact m)
    exact ⟨.ref a, h1, a, C, dx, _, rfl, g1, cl, na, by rw [List.length_zip]; omega, k x ex S1 σ _ _ (nd_write k1 hi (p := []) (s' := .obj C dx (ks ++ [f])) (l' := l ++ [x]) rfl (fun q hq => (fp_app hq).elim .inl fun y => .inr ⟨(hx q y).1, (hx q y).2.1, (hx q y).2.2, ox.som q y⟩)
      (okt_snoc o g1 g3 g4 ox (fun y => off a y (fp_nod.mpr (.inl rfl))) (fun q y m => off q y (fp_nod.mpr (.inr m))) na cl hk hf))⟩
end
section
variable {P : Program} {w : World} {K : Fg} {mg : Str → Option Value} {base : Heap} {C : Addr} {Y : XC → Addr} {μ α : Type} [Shp μ] [Sls α] {f : α → μ} {pre : α → Prop}
theorem idef_spMk {q : Str} {st : Stmt} {fa : Addr} {fd : FuncData} {N ps : List Str} {k : Nat} (Fu : Fun K "__init__" q st fa fd) (S : FnScope N ps (defScope st)) (hn : PyA.n α + 1 = ps.length)
    (h : ∀ (cdv : Value) (A : Around) (outer : List Env) (s : Shared) (H : Hp) (E : XK), Room k (A.deeper (envOfC q (defScope st) s.heap.objs.size fa cdv)) →
      ∃ t, PSs (cxOf CX0 P w K mg base N q (defScope st) fa cdv A outer s H E).nox (defBody st) t ∧
        ∀ (a dx : Addr) (x : α), Cls K C → pre x → ∀ (B S0 : Hp) (Q : VK), (∀ (G' : List Sl) (z' : Nd), G'[0]? = some (.ow z') → z'.a = a → Shp.rel z' (f x) → At K B S0 (fun _ H' => Q .non H') G') →
          At K B S0 (t { nx := fun _ H' => Q .non H', rt := Q }) (.ow (Nd.mk a (.obj C dx []) []) :: Sls.sls x ++ List.replicate (N.length - (PyA.n α + 1)) .no)) :
    FnOk P w K mg base CX0 (k + 1) fa fd ps (spMk K Y C f pre) := by
  refine Fu.ok S (fun vs H Q E ⟨S, v0, ws, qs, z, a, e, _, _, _, r, _⟩ => by rw [e, List.length_cons, PyA.len r]; exact hn) fun cdv A outer s H vs Q E hr sp => ?_
  obtain ⟨t, h1, h2⟩ := h cdv A outer s H E hr
  refine ⟨t, h1, body_spOR (Y := Y) (R := fun (z : Nd) (a : α) (_ : Unit) (z' : Nd) => Shp.rel z' (f a) ∧ z'.a = z.a) (Rf := fun _ _ _ => False) sp fun z a hp B S0 Q hret herr => ?_⟩
  obtain ⟨⟨dx, ez⟩, cl, hp⟩ := hp
  rw [ez]
  exact h2 z.a dx a cl hp B S0 Q fun G' z' hz ea hr S1 σ1 H1 F1 k1 => hret G' () z' hz (by rw [ez]; exact ea) ⟨hr, ea⟩ S1 σ1 H1 F1 .non k1 rfl
end
section
variable {K : Fg} {B S0 S1 S S' D : Hp} {σ : L2.St} {H H' : Hp} {F : Nat → List Addr} {G G' G1 G2 : List Sl} {i : Nat} {t : TA} {u : TS} {E : Ends} {Ex : XK} {C : Addr} {Y : XC → Addr} {μ α : Type} [Shp μ] [PyA α] {f : α → μ} {pre : α → Prop} {x : α}
theorem q_makeT (i : Nat) (ha : EvA K t G x G1) (cl : Cls K C) (hp : pre x) (hi : G1[i]?.isSome = true) (k : ∀ a, At K B S0 (u E) (G1.set i (.ow (Ob.mk a (f x))))) : At K B S0 (tSeq (tAsg (tMake C (spMk K Y C f pre) [] Ex t) (gName i)) u E) G := fun S σ H F kn =>
  ha B S0 S σ H F kn _ fun vs S1 H1 e1 k1 r1 => by
    intro a dx hx hdx nx
    have hH : ∀ p o, H1 p = some o → upd (upd H1 dx (.own a)) a (.ins C dx []) p = some o := fun p o e => by
      rw [upd_ne (ne_of_none e hx), upd_ne (ne_of_none e hdx)]
      exact e
    obtain ⟨a1, a2, a3⟩ := k1.free hx
    rw [List.append_nil]
    refine ⟨S1, .ref a, vs, [a], ⟨a, .obj C dx [], []⟩, x, rfl, fun p o e => hH p o (k1.sub p o e), ⟨rfl, ?_⟩, fun p hp => ?_, r1, ⟨⟨dx, rfl⟩, cl, hp⟩, fun v S2 H2 ps' y z' hR w ho r2 => ⟨r2, ?_⟩, fun e S2 H2 ps' hf => hf.elim⟩
    · exact .nod (vs := []) (s := .obj C dx []) upd_same ⟨rfl, (by show 0 < 1000; decide), cl, fun k hk => nomatch hk⟩ rfl (fun n v c hv => by simp at hv) (by unfold fpL; exact List.not_mem_nil) (fun j n c d _ hc => by simp at hc)
    · rw [List.mem_singleton.mp hp]
      exact ⟨a1, _, upd_same⟩
    · have hoff : ∀ p, p ∉ [a] → ∀ o, H1 p = some o → H2 p = some o := fun p m o e => w.h p o m (hH p o e)
      have kn2 : Kn K B S0 S2 σ H2 F G1 := k1.grow ⟨w.s, w.sub, fun p o e => hoff p (fun m => by rw [List.mem_singleton.mp m, hx] at e; cases e) o e, fun p o e => w.cl p o (fun m => by rw [List.mem_singleton.mp m, hx] at e; cases e) (hH p o e)⟩
      refine k a S2 _ H2 _ (kn2.setOwns (v := .ref a) (ps := ps') ⟨z', hR.2, hR.1, ho⟩ hi fun p hp => ?_)
      obtain ⟨b1, b2, b3⟩ := w.off p hp
      have hn : H1 p = none := by
        rcases b3 with m | m
        · rw [List.mem_singleton.mp m]; exact hx
        · cases c : H1 p with
          | none => rfl
          | some o => rw [hH p o c] at m; cases m
      obtain ⟨c1, c2, c3⟩ := k1.free hn
      exact ⟨b1, c2, b2, c3⟩
end
end GL
namespace GL
open PySem PySem.Spec PyProof.Rows L2
def postK : List Str := ["leads", "at", "carryings", "known", "owners", "copies", "many", "is_here", "due"]
structure PostM (C : Addr) where
  leads : List (Option Int)
  at_ : Int
  carr : Int
  known : List Int
  owners : List Int
  copies : List (List (Option Int))
  many : List (List Int)
  here : List Bool
  due : List (List Int)
def NLt {α : Type} [Py α] [ToD α] (L : List Tr) (xs : List (List α)) : Prop := L.map erT = xs.map fun c => Tr.nod 0 .lst (lvs c)
def adr (L : List Tr) (k : Nat) : Addr := match L[k]? with
  | some (.nod a _ _) => a
  | _ => 0
section
variable {α : Type} [Py α] [ToD α] {L : List Tr} {xs : List (List α)} {k : Int} {n : Nat} {c : List α} {x : Tr}
theorem er_lvs {t : Tr} (h : erT t = .nod 0 .lst (lvs c)) : ∃ a, t = .nod a .lst (lvs c) := by
  unfold lvs lf at h ⊢
  exact er_isLstD h
theorem nlt_len (h : NLt L xs) : L.length = xs.length := by
  have := congrArg List.length h
  rw [List.length_map, List.length_map] at this
  exact this
theorem nl_at (h : NLt L xs) (hk : 0 ≤ k ∧ k < xs.length) : L[k.toNat]? = some (.nod (adr L k.toNat) .lst (lvs (ix xs k))) := by
  have e : (L.map erT)[k.toNat]? = (xs.map fun c => Tr.nod 0 .lst (lvs c))[k.toNat]? := by rw [h]
  rw [List.getElem?_map, List.getElem?_map, ix_at hk.1 hk.2] at e
  cases e1 : L[k.toNat]? with
  | none => rw [e1] at e; cases e
  | some t =>
    rw [e1] at e
    simp only [Option.map_some, Option.some.injEq] at e
    obtain ⟨a, rfl⟩ := er_lvs e
    unfold adr
    rw [e1]
theorem nl_set (h : NLt L xs) {a : Addr} : NLt (L.set n (.nod a .lst (lvs c))) (xs.set n c) := by
  unfold NLt at h ⊢
  rw [List.map_set, List.map_set, h, er_nod, lvs_er]
  rfl
theorem nl_app (h : NLt L xs) (hx : erT x = .nod 0 .lst (lvs c)) : NLt (L ++ [x]) (xs ++ [c]) := by
  unfold NLt at h ⊢
  rw [List.map_append, List.map_append, h, List.map_singleton, List.map_singleton, hx]
theorem nl_rep {t : Tr} (h : erT t = .nod 0 .lst (List.replicate n (.nod 0 .lst []))) : ∃ a L, t = .nod a .lst L ∧ NLt L (List.replicate n ([] : List α)) := by
  obtain ⟨a, L, rfl, e⟩ := er_isLst h
  refine ⟨a, L, rfl, ?_⟩
  unfold NLt
  rw [e, List.map_replicate]
  rfl
end
structure PLy where
  dx : Addr
  a0 : Addr
  a3 : Addr
  a4 : Addr
  a5 : Addr
  a6 : Addr
  a7 : Addr
  a8 : Addr
  L5 : List Tr
  L6 : List Tr
  L8 : List Tr
def pnd {C : Addr} (a : Addr) (y : PLy) (p : PostM C) : Nd := ⟨a, .obj C y.dx postK, [.nod y.a0 .lst (lvs p.leads), lf p.at_, lf p.carr, .nod y.a3 .lst (lvs p.known), .nod y.a4 .lst (lvs p.owners), .nod y.a5 .lst y.L5, .nod y.a6 .lst y.L6, .nod y.a7 .lst (lvs p.here), .nod y.a8 .lst y.L8]⟩
structure PLOk {C : Addr} (y : PLy) (p : PostM C) : Prop where
  n5 : NLt y.L5 p.copies
  n6 : NLt y.L6 p.many
  n8 : NLt y.L8 p.due
instance {C : Addr} : Shp (PostM C) := ⟨fun z p => ∃ y : PLy, z = pnd z.a y p ∧ PLOk y p⟩
instance {C : Addr} : ObS (PostM C) C postK := ⟨fun ⟨y, e, _⟩ => ⟨y.dx, by rw [e]; rfl⟩⟩
structure PostOk {C : Addr} (p : PostM C) : Prop where
  l0 : p.leads.length ≤ 1000
  at_ : 0 ≤ p.at_ ∧ p.at_ < (p.leads.length : Int)
  kd : p.known.length = p.due.length
  kn : ∀ x ∈ p.known, 0 ≤ x ∧ x < (p.leads.length : Int)
  ld : ∀ x ∈ p.leads, ∀ h, x = some h → 0 ≤ h ∧ h < (p.leads.length : Int)
  oc : p.owners.length = p.copies.length
  om : p.owners.length = p.many.length
  oh : p.owners.length = p.here.length
  ow : ∀ x ∈ p.owners, 0 ≤ x ∧ x < (p.known.length : Int)
  cm : ∀ k : Nat, (p.copies.getD k []).length = (p.many.getD k []).length
  cp : ∀ c ∈ p.copies, ∀ x ∈ c, ∀ h, x = some h → 0 ≤ h ∧ h < (p.leads.length : Int)
  du : ∀ d ∈ p.due, ∀ x ∈ d, 0 ≤ x ∧ x < (p.owners.length : Int)
  sz : p.owners.length ≤ 10000 ∧ (∀ c ∈ p.copies, c.length ≤ 10000) ∧ ∀ d ∈ p.due, d.length ≤ 10000
section
variable {C : Addr}
def postNew (h a s : Int) : PostM C := ⟨List.replicate h.toNat none, a, 0, List.replicate s.toNat a, [], [], [], [], List.replicate s.toNat []⟩
def postCarry (p : PostM C) (to : Int) : XC ⊕ (Unit × PostM C) := if to = p.at_ then .inl .noHouse else .inr ((), { p with carr := p.carr + 1, leads := p.leads.set p.at_.toNat (some to), at_ := to })
def postSend (p : PostM C) (i : Int) : XC ⊕ (Int × PostM C) := .inr ((p.owners.length : Int), { p with owners := p.owners ++ [i], copies := p.copies ++ [[some (ix p.known i)]], many := p.many ++ [[0]], here := p.here ++ [false], due := p.due.set i.toNat (ix p.due i ++ [(p.owners.length : Int)]) })
def postLetter (p : PostM C) (l : Int) : XC ⊕ (Unit × PostM C) := if 0 ≤ l ∧ l < (p.owners.length : Int) then .inr ((), p) else .inl .noLetter
def postCopy (p : PostM C) (l c : Int) : XC ⊕ (Unit × PostM C) := if (0 ≤ l ∧ l < (p.owners.length : Int)) ∧ 0 ≤ c ∧ c < ((ix p.copies l).length : Int) then .inr ((), p) else .inl .noLetter
def postDouble (p : PostM C) (l : Int) : XC ⊕ (Int × PostM C) := if 0 ≤ l ∧ l < (p.owners.length : Int) then .inr (((ix p.copies l).length : Int), { p with copies := p.copies.set l.toNat (ix p.copies l ++ [some (ix p.known (ix p.owners l))]), many := p.many.set l.toNat (ix p.many l ++ [0]) }) else .inl .noLetter
def onD (x : Option Int) : Dat := .tup [.str (Str.ofString "on"), ToD.dat x]
def thereD : Dat := .tup [.str (Str.ofString "there")]
def postHop (p : PostM C) (l c : Int) : XC ⊕ (Dat × PostM C) :=
  if (0 ≤ l ∧ l < (p.owners.length : Int)) ∧ 0 ≤ c ∧ c < ((ix p.copies l).length : Int) then
    match ix (ix p.copies l) c with
    | none => .inl .noLetter
    | some h => if h = p.at_ then .inr (thereD, { p with copies := p.copies.set l.toNat ((ix p.copies l).set c.toNat none), here := p.here.set l.toNat true })
      else .inr (onD (ix p.leads h), { p with copies := p.copies.set l.toNat ((ix p.copies l).set c.toNat (ix p.leads h)), many := p.many.set l.toNat ((ix p.many l).set c.toNat (ix (ix p.many l) c + 1)) })
  else .inl .noLetter
def postHops (p : PostM C) (l c : Int) : XC ⊕ (Int × PostM C) := if (0 ≤ l ∧ l < (p.owners.length : Int)) ∧ 0 ≤ c ∧ c < ((ix p.copies l).length : Int) then .inr (ix (ix p.many l) c, p) else .inl .noLetter
def postLearn (p : PostM C) (i : Int) : XC ⊕ (Unit × PostM C) := .inr ((), { p with known := p.known.set i.toNat p.at_ })
def postTake (p : PostM C) (i : Int) : XC ⊕ (Option Int × PostM C) :=
  if ix p.due i = [] ∨ ix p.here (ix (ix p.due i) 0) = false then .inr (none, p) else .inr (some (ix (ix p.due i) 0), { p with due := p.due.set i.toNat ((ix p.due i).eraseIdx 0) })
end
end GL
namespace GL
open PySem PySem.Spec PyProof.Rows L2
section
variable {X : Cx}
theorem get_list : PGet X (rIxL X.K) := by
  intro pins s σ H o i ov iv Q I ro ri h
  obtain ⟨p, xs, i, z, rfl, rfl, hq, he, q⟩ := h
  cases ro
  obtain ⟨t, rfl⟩ := ri
  obtain ⟨its, r, pl, hz⟩ := I.list hq
  obtain ⟨j, h1, h2, h3, h4, h5⟩ := atI_get he
  obtain ⟨w, ew, rw'⟩ := r.get h2
  have hl := r.length
  have hn := line63
  have fin : EP X pins σ Q w s := ⟨z, H, I, rw', q⟩
  by_cases h0 : 0 ≤ i
  · have hj : i.toNat = j := by
      rw [seqIndex_of h0 h5] at h1
      exact Option.some.inj h1
    exact wpAny_getItem_list pl.isList h0 (by omega) (by rw [hj]; simpa using ew) fin
  · have hj : (i + (its.toArray.size : Int)).toNat = j := by
      rw [seqIndex_neg (by omega) h4] at h1
      rw [List.size_toArray, ← hl]
      exact Option.some.inj h1
    exact wpAny_getItem_list_neg pl.isList (by omega) (by rw [List.size_toArray] <;> omega) (by omega) (by rw [hj]; simpa using ew) fin
theorem in_addI : InOp X .Add (ipI fun i j => i + j) := in_add
end
section
variable {C : Addr} {K : Fg} {B S0 S1 S S' D : Hp} {σ : L2.St} {H H' : Hp} {F : Nat → List Addr} {G G' G1 G2 : List Sl} {ta tb te ti tj tv : TE} {i j : Nat} {t : TA} {u : TS} {E : Ends} {P : L2.St → Hp → Prop} {a : Addr} {y : PLy} {p p' : PostM C} {x : Ob (PostM C)}
theorem q_openP (i : Nat) (hi : G[i]? = some (.ow x)) (k : ∀ y, PLOk y x.m → At K B S0 P (G.set i (.ow (pnd x.a y x.m)))) : At K B S0 P G := q_open i hi fun z ea hr => by
  obtain ⟨y, e, ok⟩ := hr
  have : z = pnd x.a y x.m := by rw [← ea]; exact e
  rw [this]
  exact k y ok
theorem at_closeP (i : Nat) (hi : G[i]? = some (.ow (pnd a y p))) (ok : PLOk y p) (k : At K B S0 P (G.set i (.ow (Ob.mk a p)))) : At K B S0 P G := q_close i (m := p) hi (show Shp.rel (pnd a y p) p from ⟨y, rfl, ok⟩) k
theorem rt_closeP {α : Type} [Py α] {rt : VK} {v : α} (i : Nat) (hi : G[i]? = some (.ow (pnd a y p))) (ok : PLOk y p) (k : RT K B S0 rt v (G.set i (.ow (Ob.mk a p)))) : RT K B S0 rt v G := rt_close i (m := p) hi (show Shp.rel (pnd a y p) p from ⟨y, rfl, ok⟩) k
variable (hi : G[i]? = some (.ow (pnd a y p)))
include hi
theorem xp_at : EvX K (tFld K (tVar i) "at") G p.at_ G := ev_fldN 1 _ (en_root hi) (by decide +kernel) (by decide) rfl
theorem np_leads : EvN K (tFld K (tVar i) "leads") G i (pnd a y p) [0] y.a0 .lst (lvs p.leads) := en_fld 0 (en_root hi) (by decide +kernel) (by decide) rfl
theorem np_known : EvN K (tFld K (tVar i) "known") G i (pnd a y p) [3] y.a3 .lst (lvs p.known) := en_fld 3 (en_root hi) (by decide +kernel) (by decide) rfl
theorem np_owners : EvN K (tFld K (tVar i) "owners") G i (pnd a y p) [4] y.a4 .lst (lvs p.owners) := en_fld 4 (en_root hi) (by decide +kernel) (by decide) rfl
theorem np_copies : EvN K (tFld K (tVar i) "copies") G i (pnd a y p) [5] y.a5 .lst y.L5 := en_fld 5 (en_root hi) (by decide +kernel) (by decide) rfl
theorem np_many : EvN K (tFld K (tVar i) "many") G i (pnd a y p) [6] y.a6 .lst y.L6 := en_fld 6 (en_root hi) (by decide +kernel) (by decide) rfl
theorem np_here : EvN K (tFld K (tVar i) "is_here") G i (pnd a y p) [7] y.a7 .lst (lvs p.here) := en_fld 7 (en_root hi) (by decide +kernel) (by decide) rfl
theorem np_due : EvN K (tFld K (tVar i) "due") G i (pnd a y p) [8] y.a8 .lst y.L8 := en_fld 8 (en_root hi) (by decide +kernel) (by decide) rfl
section
variable {n m : Int} (hn : EvX K ti G n G)
include hn
theorem xp_leads (b : 0 ≤ n ∧ n < p.leads.length) : EvX K (tOp (rIxL K) (tFld K (tVar i) "leads") ti) G (ix p.leads n) G := ev_ixN _ (np_leads hi) hn b.1 (lvs_at b)
theorem xp_known (b : 0 ≤ n ∧ n < p.known.length) : EvX K (tOp (rIxL K) (tFld K (tVar i) "known") ti) G (ix p.known n) G := ev_ixN _ (np_known hi) hn b.1 (lvs_at b)
theorem xp_owners (b : 0 ≤ n ∧ n < p.owners.length) : EvX K (tOp (rIxL K) (tFld K (tVar i) "owners") ti) G (ix p.owners n) G := ev_ixN _ (np_owners hi) hn b.1 (lvs_at b)
theorem xp_here (b : 0 ≤ n ∧ n < p.here.length) : EvX K (tOp (rIxL K) (tFld K (tVar i) "is_here") ti) G (ix p.here n) G := ev_ixN _ (np_here hi) hn b.1 (lvs_at b)
theorem np_cop1 (ok : PLOk y p) (b : 0 ≤ n ∧ n < p.copies.length) : EvN K (tOp (rIxL K) (tFld K (tVar i) "copies") ti) G i (pnd a y p) [5, n.toNat] (adr y.L5 n.toNat) .lst (lvs (ix p.copies n)) := en_ix (np_copies hi) hn b.1 (nl_at ok.n5 b)
theorem np_many1 (ok : PLOk y p) (b : 0 ≤ n ∧ n < p.many.length) : EvN K (tOp (rIxL K) (tFld K (tVar i) "many") ti) G i (pnd a y p) [6, n.toNat] (adr y.L6 n.toNat) .lst (lvs (ix p.many n)) := en_ix (np_many hi) hn b.1 (nl_at ok.n6 b)
theorem np_due1 (ok : PLOk y p) (b : 0 ≤ n ∧ n < p.due.length) : EvN K (tOp (rIxL K) (tFld K (tVar i) "due") ti) G i (pnd a y p) [8, n.toNat] (adr y.L8 n.toNat) .lst (lvs (ix p.due n)) := en_ix (np_due hi) hn b.1 (nl_at ok.n8 b)
theorem xp_cop (hm : EvX K tj G m G) (ok : PLOk y p) (b : 0 ≤ n ∧ n < p.copies.length) (b' : 0 ≤ m ∧ m < (ix p.copies n).length) : EvX K (tOp (rIxL K) (tOp (rIxL K) (tFld K (tVar i) "copies") ti) tj) G (ix (ix p.copies n) m) G := ev_ixN _ (np_cop1 hi hn ok b) hm b'.1 (lvs_at b')
theorem xp_many (hm : EvX K tj G m G) (ok : PLOk y p) (b : 0 ≤ n ∧ n < p.many.length) (b' : 0 ≤ m ∧ m < (ix p.many n).length) : EvX K (tOp (rIxL K) (tOp (rIxL K) (tFld K (tVar i) "many") ti) tj) G (ix (ix p.many n) m) G := ev_ixN _ (np_many1 hi hn ok b) hm b'.1 (lvs_at b')
theorem xp_due (hm : EvX K tj G m G) (ok : PLOk y p) (b : 0 ≤ n ∧ n < p.due.length) (b' : 0 ≤ m ∧ m < (ix p.due n).length) : EvX K (tOp (rIxL K) (tOp (rIxL K) (tFld K (tVar i) "due") ti) tj) G (ix (ix p.due n) m) G := ev_ixN _ (np_due1 hi hn ok b) hm b'.1 (lvs_at b')
theorem xp_lenC (ok : PLOk y p) (b : 0 ≤ n ∧ n < p.copies.length) : EvX K (tCB (rLenS K) (tCons (tOp (rIxL K) (tFld K (tVar i) "copies") ti) tNil)) G ((ix p.copies n).length : Int) G := by
  have := ev_lenN (np_cop1 hi hn ok b)
  rw [lvs_len] at this
  exact this
theorem xp_dueE (ok : PLOk y p) (b : 0 ≤ n ∧ n < p.due.length) : EvX K (tOp (rEqD K) (tOp (rIxL K) (tFld K (tVar i) "due") ti) (tLst tNil)) G (decide (ix p.due n = [])) G := ev_eqE (np_due1 hi hn ok b) (by decide)
end
theorem xp_lenO : EvX K (tCB (rLenS K) (tCons (tFld K (tVar i) "owners") tNil)) G (p.owners.length : Int) G := by
  have := ev_lenN (np_owners (K := K) hi)
  rw [lvs_len] at this
  exact this
theorem sp_at {v : Int} (h : EvX K tv G v G) (k : At K B S0 (u E) (G.set i (.ow (pnd a y ({ p with at_ := v } : PostM C))))) : At K B S0 (tSeq (sFld K (tVar i) tv "at") u E) G :=
  q_fldN 1 h (en_root hi) (by decide +kernel) (by decide) fun z' e => by rw [e]; exact k
theorem sp_carr {v : Int} (h : EvX K tv G v G) (k : At K B S0 (u E) (G.set i (.ow (pnd a y ({ p with carr := p.carr + v } : PostM C))))) : At K B S0 (tSeq (sFldAug K (tVar i) tv (ipI fun i j => i + j) "carryings") u E) G :=
  q_fldAugN 2 (en_root hi) h (by decide +kernel) (by decide) rfl fun z' e => by rw [e]; exact k
section
variable {n m v : Int} (hn : EvX K ti G n G)
include hn
theorem sp_leads {v : Option Int} (h : EvX K tv G v G) (b : 0 ≤ n ∧ n < p.leads.length) (k : At K B S0 (u E) (G.set i (.ow (pnd a y ({ p with leads := p.leads.set n.toNat v } : PostM C))))) : At K B S0 (tSeq (tAsg tv (gSub (tFld K (tVar i) "leads") ti rSetL)) u E) G :=
  q_setN h (np_leads hi) hn (by rw [lvs_len]; exact b) fun z' e => by rw [e, lvs_set]; exact k
theorem sp_known (h : EvX K tv G v G) (b : 0 ≤ n ∧ n < p.known.length) (k : At K B S0 (u E) (G.set i (.ow (pnd a y ({ p with known := p.known.set n.toNat v } : PostM C))))) : At K B S0 (tSeq (tAsg tv (gSub (tFld K (tVar i) "known") ti rSetL)) u E) G :=
  q_setN h (np_known hi) hn (by rw [lvs_len]; exact b) fun z' e => by rw [e, lvs_set]; exact k
theorem sp_here {v : Bool} (h : EvX K tv G v G) (b : 0 ≤ n ∧ n < p.here.length) (k : At K B S0 (u E) (G.set i (.ow (pnd a y ({ p with here := p.here.set n.toNat v } : PostM C))))) : At K B S0 (tSeq (tAsg tv (gSub (tFld K (tVar i) "is_here") ti rSetL)) u E) G :=
  q_setN h (np_here hi) hn (by rw [lvs_len]; exact b) fun z' e => by rw [e, lvs_set]; exact k
end
theorem sp_ownersA {v : Int} (h : EvX K tv G v G) (b : p.owners.length < sizeLine) (k : At K B S0 (u E) (G.set i (.ow (pnd a y ({ p with owners := p.owners ++ [v] } : PostM C))))) : At K B S0 (tSeq (tDrop (tBM K "list" rAppend (tFld K (tVar i) "owners") (tCons tv tNil))) u E) G :=
  q_appL (np_owners hi) h (by rw [lvs_len]; exact b) fun z' e => by rw [e, lvs_app]; exact k
theorem sp_hereA {v : Bool} (h : EvX K tv G v G) (b : p.here.length < sizeLine) (k : At K B S0 (u E) (G.set i (.ow (pnd a y ({ p with here := p.here ++ [v] } : PostM C))))) : At K B S0 (tSeq (tDrop (tBM K "list" rAppend (tFld K (tVar i) "is_here") (tCons tv tNil))) u E) G :=
  q_appL (np_here hi) h (by rw [lvs_len]; exact b) fun z' e => by rw [e, lvs_app]; exact k
theorem sp_copA {c : List (Option Int)} (ok : PLOk y p) (h : EvTn K tv G (.nod 0 .lst (lvs c))) (b : p.copies.length < sizeLine) (k : ∀ y', PLOk y' ({ p with copies := p.copies ++ [c] } : PostM C) → At K B S0 (u E) (G.set i (.ow (pnd a y' ({ p with copies := p.copies ++ [c] } : PostM C))))) : At K B S0 (tSeq (tDrop (tBM K "list" rAppend (tFld K (tVar i) "copies") (tCons tv tNil))) u E) G :=
  q_appT (np_copies hi) h (by rw [nlt_len ok.n5]; exact b) fun x z' ex e => by rw [e]; exact k { y with L5 := y.L5 ++ [x] } ⟨nl_app ok.n5 ex, ok.n6, ok.n8⟩
theorem sp_manyA {c : List Int} (ok : PLOk y p) (h : EvTn K tv G (.nod 0 .lst (lvs c))) (b : p.many.length < sizeLine) (k : ∀ y', PLOk y' ({ p with many := p.many ++ [c] } : PostM C) → At K B S0 (u E) (G.set i (.ow (pnd a y' ({ p with many := p.many ++ [c] } : PostM C))))) : At K B S0 (tSeq (tDrop (tBM K "list" rAppend (tFld K (tVar i) "many") (tCons tv tNil))) u E) G :=
  q_appT (np_many hi) h (by rw [nlt_len ok.n6]; exact b) fun x z' ex e => by rw [e]; exact k { y with L6 := y.L6 ++ [x] } ⟨ok.n5, nl_app ok.n6 ex, ok.n8⟩
omit hi in
theorem pn_put5 {k : Nat} {c t : Tr} (hk : y.L5[k]? = some c) : (pnd a y p).put [5, k] t = pnd a { y with L5 := y.L5.set k t } p := by
  unfold Nd.put Nd.t pnd
  simp only [putT, List.getElem?_cons_succ, List.getElem?_cons_zero, hk]
  rfl
omit hi in
theorem pn_put6 {k : Nat} {c t : Tr} (hk : y.L6[k]? = some c) : (pnd a y p).put [6, k] t = pnd a { y with L6 := y.L6.set k t } p := by
  unfold Nd.put Nd.t pnd
  simp only [putT, List.getElem?_cons_succ, List.getElem?_cons_zero, hk]
  rfl
omit hi in
theorem pn_put8 {k : Nat} {c t : Tr} (hk : y.L8[k]? = some c) : (pnd a y p).put [8, k] t = pnd a { y with L8 := y.L8.set k t } p := by
  unfold Nd.put Nd.t pnd
  simp only [putT, List.getElem?_cons_succ, List.getElem?_cons_zero, hk]
  rfl
section
variable {n m v : Int} (hn : EvX K ti G n G) (ok : PLOk y p)
include hn ok
theorem sp_dueA (h : EvX K tv G v G) (b : 0 ≤ n ∧ n < p.due.length) (s : (ix p.due n).length < sizeLine) (k : ∀ y', PLOk y' ({ p with due := p.due.set n.toNat (ix p.due n ++ [v]) } : PostM C) → At K B S0 (u E) (G.set i (.ow (pnd a y' ({ p with due := p.due.set n.toNat (ix p.due n ++ [v]) } : PostM C))))) :
    At K B S0 (tSeq (tDrop (tBM K "list" rAppend (tOp (rIxL K) (tFld K (tVar i) "due") ti) (tCons tv tNil))) u E) G :=
  q_appL (np_due1 hi hn ok b) h (by rw [lvs_len]; exact s) fun z' e => by rw [e, pn_put8 (nl_at ok.n8 b), lvs_app]; exact k _ ⟨ok.n5, ok.n6, nl_set ok.n8⟩
theorem sp_copS {v : Option Int} (hm : EvX K tj G m G) (h : EvX K tv G v G) (b : 0 ≤ n ∧ n < p.copies.length) (b' : 0 ≤ m ∧ m < (ix p.copies n).length) (k : ∀ y', PLOk y' ({ p with copies := p.copies.set n.toNat ((ix p.copies n).set m.toNat v) } : PostM C) → At K B S0 (u E) (G.set i (.ow (pnd a y' ({ p with copies := p.copies.set n.toNat ((ix p.copies n).set m.toNat v) } : PostM C))))) :
    At K B S0 (tSeq (tAsg tv (gSub (tOp (rIxL K) (tFld K (tVar i) "copies") ti) tj rSetL)) u E) G :=
  q_setN h (np_cop1 hi hn ok b) hm (by rw [lvs_len]; exact b') fun z' e => by rw [e, pn_put5 (nl_at ok.n5 b), lvs_set]; exact k _ ⟨nl_set ok.n5, ok.n6, ok.n8⟩
theorem sp_manyG (hm : EvX K tj G m G) (h : EvX K tv G v G) (b : 0 ≤ n ∧ n < p.many.length) (b' : 0 ≤ m ∧ m < (ix p.many n).length) (k : ∀ y', PLOk y' ({ p with many := p.many.set n.toNat ((ix p.many n).set m.toNat (ix (ix p.many n) m + v)) } : PostM C) → At K B S0 (u E) (G.set i (.ow (pnd a y' ({ p with many := p.many.set n.toNat ((ix p.many n).set m.toNat (ix (ix p.many n) m + v)) } : PostM C))))) :
    At K B S0 (tSeq (tAugS (tOp (rIxL K) (tFld K (tVar i) "many") ti) tj tv (rIxL K) (ipI fun i j => i + j) rSetL) u E) G :=
  q_augN (np_many1 hi hn ok b) hm h (by rw [lvs_len]; exact b') (lvs_at b') fun z' e => by rw [e, pn_put6 (nl_at ok.n6 b), lvs_set]; exact k _ ⟨ok.n5, nl_set ok.n6, ok.n8⟩
theorem sp_copAA {v : Option Int} (h : EvX K tv G v G) (b : 0 ≤ n ∧ n < p.copies.length) (s : (ix p.copies n).length < sizeLine) (k : ∀ y', PLOk y' ({ p with copies := p.copies.set n.toNat (ix p.copies n ++ [v]) } : PostM C) → At K B S0 (u E) (G.set i (.ow (pnd a y' ({ p with copies := p.copies.set n.toNat (ix p.copies n ++ [v]) } : PostM C))))) :
    At K B S0 (tSeq (tDrop (tBM K "list" rAppend (tOp (rIxL K) (tFld K (tVar i) "copies") ti) (tCons tv tNil))) u E) G :=
  q_appL (np_cop1 hi hn ok b) h (by rw [lvs_len]; exact s) fun z' e => by rw [e, pn_put5 (nl_at ok.n5 b), lvs_app]; exact k _ ⟨nl_set ok.n5, ok.n6, ok.n8⟩
theorem sp_manyAA (h : EvX K tv G v G) (b : 0 ≤ n ∧ n < p.many.length) (s : (ix p.many n).length < sizeLine) (k : ∀ y', PLOk y' ({ p with many := p.many.set n.toNat (ix p.many n ++ [v]) } : PostM C) → At K B S0 (u E) (G.set i (.ow (pnd a y' ({ p with many := p.many.set n.toNat (ix p.many n ++ [v]) } : PostM C))))) :
    At K B S0 (tSeq (tDrop (tBM K "list" rAppend (tOp (rIxL K) (tFld K (tVar i) "many") ti) (tCons tv tNil))) u E) G :=
  q_appL (np_many1 hi hn ok b) h (by rw [lvs_len]; exact s) fun z' e => by rw [e, pn_put6 (nl_at ok.n6 b), lvs_app]; exact k _ ⟨ok.n5, nl_set ok.n6, ok.n8⟩
theorem rp_duePop {rt : VK} (hz : EvX K tv G (0 : Int) G) (b : 0 ≤ n ∧ n < p.due.length) (s : 0 < (ix p.due n).length ∧ (ix p.due n).length ≤ 1000000) (ht : E.rt = rt) (k : ∀ y', PLOk y' ({ p with due := p.due.set n.toNat ((ix p.due n).eraseIdx 0) } : PostM C) → RT K B S0 rt (some (ix (ix p.due n) 0)) (G.set i (.ow (pnd a y' ({ p with due := p.due.set n.toNat ((ix p.due n).eraseIdx 0) } : PostM C))))) :
    At K B S0 (tSeq (tRet (tBM K "list" rPopAt (tOp (rIxL K) (tFld K (tVar i) "due") ti) (tCons tv tNil))) u E) G := by
  subst ht
  refine q_retV (ev_popN (α := Option Int) (some (ix (ix p.due n) 0)) (np_due1 hi hn ok b) hz (by rw [lvs_len]; exact ⟨Int.le_refl _, by omega⟩) (by rw [lvs_len]; exact s.2) ?_) fun _ _ => ?_
  · have := lvs_at (xs := ix p.due n) (k := 0) ⟨Int.le_refl _, by omega⟩
    exact this
  · rw [pn_put8 (nl_at ok.n8 b)]
    show RT _ _ _ _ _ (G.set i (.ow (pnd a { y with L8 := y.L8.set n.toNat (.nod (adr y.L8 n.toNat) .lst ((lvs (ix p.due n)).eraseIdx 0)) } p)))
    rw [lvs_erase]
    exact k _ ⟨ok.n5, ok.n6, nl_set ok.n8⟩
end
end
end GL
namespace GL
open PySem PySem.Spec PyProof.Rows L2
theorem rep_flatP {α : Type} (n : Nat) (x : α) : (List.replicate n [x]).flatten = List.replicate n x := by
  induction n with
  | zero => rfl
  | succ n ih => rw [List.replicate_succ, List.flatten_cons, ih, List.replicate_succ]; rfl
theorem ch_no {a b c : Int} (h : (!(decide (a ≤ b) && decide (b < c))) = true) : ¬ (a ≤ b ∧ b < c) := fun k => by
  rw [decide_eq_true k.1, decide_eq_true k.2] at h; cases h
theorem ch_yes {a b c : Int} (h : (!(decide (a ≤ b) && decide (b < c))) = false) : a ≤ b ∧ b < c := by
  simpa using h
theorem ix_inP {α : Type} [Inhabited α] {xs : List α} {i : Int} (b : 0 ≤ i ∧ i < xs.length) : ix xs i ∈ xs := List.mem_of_getElem? (ix_at b.1 b.2)
section
variable {C : Addr} {p n : PostM C} {l c i : Int} {e : XC} {y : Unit}
theorem letter_ok (h : postLetter p l = .inr (y, n)) : n = p ∧ (0 ≤ l ∧ l < (p.owners.length : Int)) := by
  unfold postLetter at h
  split at h
  next k => cases h; exact ⟨rfl, k⟩
  next k => cases h
theorem letter_no (h : postLetter p l = .inl e) : e = .noLetter ∧ ¬ (0 ≤ l ∧ l < (p.owners.length : Int)) := by
  unfold postLetter at h
  split at h
  next k => cases h
  next k => cases h; exact ⟨rfl, k⟩
theorem copy_ok (h : postCopy p l c = .inr (y, n)) : n = p ∧ ((0 ≤ l ∧ l < (p.owners.length : Int)) ∧ 0 ≤ c ∧ c < ((ix p.copies l).length : Int)) := by
  unfold postCopy at h
  split at h
  next k => cases h; exact ⟨rfl, k⟩
  next k => cases h
theorem copy_no (h : postCopy p l c = .inl e) : e = .noLetter ∧ ¬ ((0 ≤ l ∧ l < (p.owners.length : Int)) ∧ 0 ≤ c ∧ c < ((ix p.copies l).length : Int)) := by
  unfold postCopy at h
  split at h
  next k => cases h
  next k => cases h; exact ⟨rfl, k⟩
section
variable (hl : (0 ≤ l ∧ l < (p.owners.length : Int)) ∧ 0 ≤ c ∧ c < ((ix p.copies l).length : Int))
include hl
theorem hop_none (h : ix (ix p.copies l) c = none) : postHop p l c = .inl .noLetter := by
  unfold postHop
  rw [if_pos hl, h]
theorem hop_here {k : Int} (h : ix (ix p.copies l) c = some k) (e : k = p.at_) : postHop p l c = .inr (thereD, { p with copies := p.copies.set l.toNat ((ix p.copies l).set c.toNat none), here := p.here.set l.toNat true }) := by
  unfold postHop
  rw [if_pos hl, h]
  dsimp only
  rw [if_pos e]
theorem hop_on {k : Int} (h : ix (ix p.copies l) c = some k) (e : ¬ k = p.at_) : postHop p l c = .inr (onD (ix p.leads k), { p with copies := p.copies.set l.toNat ((ix p.copies l).set c.toNat (ix p.leads k)), many := p.many.set l.toNat ((ix p.many l).set c.toNat (ix (ix p.many l) c + 1)) }) := by
  unfold postHop
  rw [if_pos hl, h]
  dsimp only
  rw [if_neg e]
end
theorem PostOk.dl (h : PostOk p) (b : 0 ≤ i ∧ i < (p.due.length : Int)) : (ix p.due i).length ≤ 10000 := h.sz.2.2 _ (ix_inP b)
theorem PostOk.cm_ix (h : PostOk p) (l : Int) (b : 0 ≤ l ∧ l < (p.copies.length : Int)) (b' : 0 ≤ l ∧ l < (p.many.length : Int)) : (ix p.copies l).length = (ix p.many l).length := by
  have := h.cm l.toNat
  rw [List.getD_eq_getElem?_getD, List.getD_eq_getElem?_getD, ix_at b.1 b.2, ix_at b'.1 b'.2] at this
  exact this
theorem PostOk.cp_ix (h : PostOk p) (b : 0 ≤ l ∧ l < (p.copies.length : Int)) (b' : 0 ≤ c ∧ c < ((ix p.copies l).length : Int)) {k : Int} (e : ix (ix p.copies l) c = some k) : 0 ≤ k ∧ k < (p.leads.length : Int) := h.cp _ (ix_inP b) _ (ix_inP b') k e
theorem PostOk.du_0 (h : PostOk p) (b : 0 ≤ i ∧ i < (p.due.length : Int)) (hc : decide (ix p.due i = []) = false) : (0 ≤ (0 : Int) ∧ (0 : Int) < ((ix p.due i).length : Int)) ∧ 0 ≤ ix (ix p.due i) 0 ∧ ix (ix p.due i) 0 < (p.here.length : Int) := by
  have h0 : 0 ≤ (0 : Int) ∧ (0 : Int) < ((ix p.due i).length : Int) := by
    refine ⟨Int.le_refl _, ?_⟩
    rcases e : ix p.due i with _ | ⟨_, _⟩
    · rw [e] at hc; cases hc
    · simp only [List.length_cons]; omega
  exact ⟨h0, by rw [← h.oh]; exact h.du _ (ix_inP b) _ (ix_inP h0)⟩
theorem tk_yes {A : Prop} [Decidable A] {b : Bool} (h : (decide A || !b) = true) : A ∨ b = false := by
  rcases Bool.or_eq_true_iff.mp h with h | h
  · exact .inl (of_decide_eq_true h)
  · exact .inr (by simpa using h)
theorem tk_no {A : Prop} [Decidable A] {b : Bool} (h : (decide A || !b) = false) : ¬ (A ∨ b = false) := fun k => by
  rw [Bool.or_eq_false_iff] at h
  rcases k with k | k
  · exact of_decide_eq_false h.1 k
  · rw [k] at h; exact absurd h.2 (by decide)
theorem one_line {α : Type} {x : α} {n : Int} (h : n ≤ 1000) : [x].length * n.toNat ≤ sizeLine := le_line (by rw [List.length_singleton, Nat.one_mul]; omega)
theorem EvX.un {K : Fg} {te : TE} {G G1 : List Sl} {x : Int} (h : EvX K te G (Option.some x) G1) : EvX K te G x G1 := EvX.get (α := Int) h rfl
theorem rng_len0 {n : Int} : (rng 0 n).length = n.toNat := by
  unfold rng
  simp
end
end GL
namespace GL
open PySem PySem.Spec PyProof.Rows L2
def kIx (k : Key) : List Key → Nat
  | [] => 0
  | x :: xs => if x = k then 0 else kIx k xs + 1
theorem val_zip : ∀ {ks : List Key} {vs : List V} {k : Key} {n : Nat} {v : V}, kIx k ks = n → n < ks.length → vs[n]? = some v → valV (ks.zip vs) k = some v
  | [], vs, k, n, v, h1, h2, h3 => by cases h2
  | x :: ks, [], k, n, v, h1, h2, h3 => by simp at h3
  | x :: ks, w :: vs, k, n, v, h1, h2, h3 => by
    unfold kIx at h1
    by_cases e : x = k
    · rw [if_pos e] at h1
      subst h1
      rw [List.zip_cons_cons, valV_pos e]
      exact h3
    · rw [if_neg e] at h1
      subst h1
      rw [List.zip_cons_cons, valV_neg e]
      rw [List.getElem?_cons_succ] at h3
      exact val_zip rfl (by simpa using h2) h3
theorem map_off {k : Key} {v : V} : ∀ {ks : List Key} {vs : List V}, k ∉ ks → (ks.zip vs).map (fun kv => if kv.1 = k then (kv.1, v) else kv) = ks.zip vs
  | [], vs, h => rfl
  | x :: ks, [], h => rfl
  | x :: ks, w :: vs, h => by
    rw [List.zip_cons_cons, List.map_cons, map_off (fun m => h (List.mem_cons_of_mem _ m)), if_neg (fun e => h (by rw [← show x = k from e]; exact List.mem_cons_self))]
theorem any_zip {k : Key} : ∀ {ks : List Key} {vs : List V}, kIx k ks < ks.length → ks.length = vs.length → ((ks.zip vs).any fun kv => decide (kv.1 = k)) = true
  | [], vs, h, e => by cases h
  | x :: ks, [], h, e => by cases e
  | x :: ks, w :: vs, h, e => by
    unfold kIx at h
    rw [List.zip_cons_cons, List.any_cons]
    by_cases c : x = k
    · rw [show decide ((x, w).1 = k) = true from decide_eq_true c]; rfl
    · rw [if_neg c] at h
      rw [any_zip (by simpa using h) (by simpa using e), Bool.or_true]
theorem putM_zip {k : Key} {v : V} : ∀ {ks : List Key} {vs : List V} {n : Nat}, ks.Nodup → kIx k ks = n → n < ks.length → ks.length = vs.length → (ks.zip vs).map (fun kv => if kv.1 = k then (kv.1, v) else kv) = ks.zip (vs.set n v)
  | [], vs, n, nd, h1, h2, h3 => by cases h2
  | x :: ks, [], n, nd, h1, h2, h3 => by cases h3
  | x :: ks, w :: vs, n, nd, h1, h2, h3 => by
    unfold kIx at h1
    have nd' := List.nodup_cons.mp nd
    by_cases e : x = k
    · rw [if_pos e] at h1
      subst h1
      rw [List.set_cons_zero, List.zip_cons_cons, List.zip_cons_cons, List.map_cons, map_off (by rw [← e]; exact nd'.1), if_pos (show (x, w).1 = k from e)]
    · rw [if_neg e] at h1
      subst h1
      rw [List.set_cons_succ, List.zip_cons_cons, List.zip_cons_cons, List.map_cons, putM_zip nd'.2 rfl (by simpa using h2) (by simpa using h3), if_neg (show ¬ (x, w).1 = k from e)]
theorem putK_zip {k : Key} {v : V} {ks : List Key} {vs : List V} {n : Nat} (nd : ks.Nodup) (h1 : kIx k ks = n) (h2 : n < ks.length) (h3 : ks.length = vs.length) : putK (ks.zip vs) k v = ks.zip (vs.set n v) := by
  unfold putK
  rw [if_pos (any_zip (by rw [h1]; exact h2) h3)]
  exact putM_zip nd h1 h2 h3
section
variable {K : Fg} {B S0 S1 S S' D : Hp} {σ : L2.St} {H H' : Hp} {F : Nat → List Addr} {G G' G1 G2 : List Sl} {ta tb te ti to tv : TE} {i j : Nat} {z : Nd} {p : List Nat} {b c : Addr} {s s' : Sh} {l l' : List Tr} {u : TS} {E : Ends} {α : Type} [Py α] [ToD α] [Bck α] {x : α} {ks : List Key} {f : Str}
theorem Kn.pinT {fs : List Addr} (k : Kn K B S0 S σ H F G) (h : ∀ q ∈ fs, S q = none ∧ (∃ o, H q = some o) ∧ ∀ j, q ∉ F j) : Kn K (fun q => if q ∈ fs then H q else B q) S0 S σ H F G := by
  refine ⟨k.s0, k.sub, fun q o e => ?_, fun q o e => ?_, fun j q hq => ?_, k.dj, k.len, k.sl⟩
  · by_cases c : q ∈ fs
    · rw [if_pos c] at e; exact e
    · rw [if_neg c] at e; exact k.keep q o e
  · by_cases c : q ∈ fs
    · rw [(h q c).1]
      cases e0 : S0 q with
      | none => rfl
      | some o => have := k.s0 q o e0; rw [(h q c).1] at this; cases this
    · rw [if_neg c] at e; exact k.clean q o e
  · obtain ⟨a1, a2, a3⟩ := k.off j q hq
    refine ⟨a1, ?_, a3⟩
    rw [if_neg fun c => (h q c).2.2 j hq]
    exact a2
theorem Kn.unpinT {fs : List Addr} {H0 : Hp} (k : Kn K (fun q => if q ∈ fs then H0 q else B q) S0 S σ H F G) (h : ∀ q ∈ fs, B q = none ∧ ∃ o, H0 q = some o) : Kn K B S0 S σ H F G ∧ ∀ q ∈ fs, H q = H0 q ∧ (S0 q = none → S q = none) ∧ ∀ j, q ∉ F j := by
  refine ⟨⟨k.s0, k.sub, fun q o e => k.keep q o ?_, fun q o e => k.clean q o ?_, fun j q hq => ?_, k.dj, k.len, k.sl⟩, fun q hq => ?_⟩
  · rw [if_neg fun c => by rw [(h q c).1] at e; cases e]; exact e
  · rw [if_neg fun c => by rw [(h q c).1] at e; cases e]; exact e
  · obtain ⟨a1, a2, a3⟩ := k.off j q hq
    refine ⟨a1, ?_, a3⟩
    by_cases c : q ∈ fs
    · exact (h q c).1
    · rw [if_neg c] at a2; exact a2
  · obtain ⟨o, ho⟩ := (h q hq).2
    have e : (if q ∈ fs then H0 q else B q) = some o := by rw [if_pos hq]; exact ho
    refine ⟨(k.keep q o e).trans ho.symm, fun hs => (k.clean q o e).trans hs, fun j hj => ?_⟩
    have := (k.off j q hj).2.1
    rw [e] at this; cases this
structure NewT (K : Fg) (B S H : Hp) (F : Nat → List Addr) (vs : List V) (xs : List Tr) (ys : List Tr) : Prop where
  er : xs.map erT = ys
  len : vs.length = xs.length
  ok : ∀ (k : Nat) v d, vs[k]? = some v → xs[k]? = some d → OkT K S H v d
  fr : ∀ q ∈ fpL xs, S q = none ∧ B q = none ∧ ∀ j, q ∉ F j
  dj : ∀ (j k : Nat) d e, j ≠ k → xs[j]? = some d → xs[k]? = some e → ∀ q ∈ fpT d, q ∉ fpT e
def EvTp (K : Fg) (trs : List (TE × TE)) (G : List Sl) (ks : List Key) (ys : List Tr) : Prop :=
  ∀ B S0 S σ H F, Kn K B S0 S σ H F G → ∀ Q : List (V × V) → Hp → Prop, (∀ vs S' H' xs, Same S S' → Kn K B S0 S' σ H' F G → ks.length = vs.length → NewT K B S' H' F vs xs ys → Q ((ks.map kV).zip vs) H') → tPairs trs σ H Q
theorem putK_new {κ : Type} [DecidableEq κ] {kvs : List (κ × V)} {k : κ} {v : V} (h : k ∉ kvs.map Prod.fst) : putK kvs k v = kvs ++ [(k, v)] := by
  unfold putK
  rw [if_neg]
  intro e
  obtain ⟨kv, h1, h2⟩ := List.any_eq_true.mp e
  exact h (List.mem_map.mpr ⟨kv, h1, of_decide_eq_true h2⟩)
theorem merge_new : ∀ {more kvs : List (Key × V)}, ((kvs ++ more).map Prod.fst).Nodup → mergeK kvs more = kvs ++ more
  | [], kvs, h => by rw [List.append_nil]; rfl
  | p :: more, kvs, h => by
    have hn : p.1 ∉ kvs.map Prod.fst := fun m => by
      rw [List.map_append, List.nodup_append] at h
      exact h.2.2 _ m _ (List.mem_map.mpr ⟨p, List.mem_cons_self, rfl⟩) rfl
    show mergeK (putK kvs p.1 p.2) more = _
    rw [putK_new hn, merge_new (by rw [List.append_assoc]; exact h), List.append_assoc]
    rfl
theorem zip_kv : ∀ {ks : List Key} {vs : List V}, (ks.map kV).zip vs = (ks.zip vs).map fun kv => (kV kv.1, kv.2)
  | [], _ => rfl
  | k :: ks, [] => rfl
  | k :: ks, v :: vs => by rw [List.map_cons, List.zip_cons_cons, List.zip_cons_cons, List.map_cons, zip_kv]
theorem zip_fst : ∀ {ks : List Key} {vs : List V}, ks.length = vs.length → (ks.zip vs).map Prod.fst = ks
  | [], _, _ => rfl
  | k :: ks, [], h => by cases h
  | k :: ks, v :: vs, h => by rw [List.zip_cons_cons, List.map_cons, zip_fst (by simpa using h)]
end
end GL
namespace GL
open PySem PySem.Spec PyProof.Rows L2
structure Cmd where
  a : Addr
  s : Addr
  f : Addr
  g : Prog
  st : Stand
  houses : Int
  place : Int
  wait : List Int
  said : List Int
  done : Int
  goal : Option Int
  still : Bool
  copied : Dct Bool
  made : Int
  lacks : List Int
def cmK : List Key := [.inr "program", .inr "stand", .inr "houses", .inr "at", .inr "letters", .inr "said", .inr "ticks", .inr "goal", .inr "still", .inr "copied", .inr "made", .inr "lacks"]
def cmV (z : Cmd) (pv sv wv lv : V) : List V := [pv, sv, .int z.houses, .int z.place, wv, .ref z.s, .int z.done, oV z.goal, .bl z.still, .ref z.f, .int z.made, lv]
structure CmAt (K : Fg) (S H : Hp) (z : Cmd) (pv sv wv lv : V) (kf : List (Key × V)) : Prop where
  ob : H z.a = some (.dK (cmK.zip (cmV z pv sv wv lv)))
  rg : Py.rep K S pv z.g
  rs : Py.rep K S sv z.st
  rw_ : Py.rep K S wv z.wait
  rl : Py.rep K S lv z.lacks
  hs : H z.s = some (.lst (z.said.map V.int))
  hf : H z.f = some (.dK kf)
  rf : RepD K S kf z.copied.l
  d1 : z.f ≠ z.a
def Cmd.fp (z : Cmd) : List Addr := [z.a, z.s, z.f]
section
variable {K : Fg} {S S' H H' : Hp} {z z' : Cmd} {pv sv wv lv : V} {kf : List (Key × V)}
theorem CmAt.mono (c : CmAt K S H z pv sv wv lv kf) (e : Same S S') (h : ∀ p ∈ z.fp, H' p = H p) : CmAt K S' H' z pv sv wv lv kf :=
  ⟨by rw [h _ (by simp [Cmd.fp])]; exact c.ob, Py.mono e c.rg, Py.mono e c.rs, Py.mono e c.rw_, Py.mono e c.rl, by rw [h _ (by simp [Cmd.fp])]; exact c.hs, by rw [h _ (by simp [Cmd.fp])]; exact c.hf, c.rf.mono e, c.d1⟩
instance : Own Cmd := ⟨fun K S H v ps z => v = .ref z.a ∧ ps = z.fp ∧ ∃ pv sv wv lv kf, CmAt K S H z pv sv wv lv kf, fun {K S S' H H' v ps x} e a ⟨h1, h2, pv, sv, wv, lv, kf, c⟩ => ⟨h1, h2, pv, sv, wv, lv, kf, c.mono e (by rw [← h2]; exact a)⟩⟩
instance : Anch Cmd := ⟨fun z => (.ref z.a, z.fp), fun ⟨h1, h2, _⟩ => by rw [h1, h2]⟩
instance : Rad Cmd := ⟨fun z => z.a, fun ⟨h1, _⟩ => h1⟩
theorem CmAt.ne_s (c : CmAt K S H z pv sv wv lv kf) : z.s ≠ z.a := fun e => by have h := c.hs; rw [e, c.ob] at h; cases h
theorem CmAt.ne_sf (c : CmAt K S H z pv sv wv lv kf) : z.s ≠ z.f := fun e => by have h := c.hs; rw [e, c.hf] at h; cases h
theorem CmAt.som (c : CmAt K S H z pv sv wv lv kf) {q : Addr} (h : q ∈ z.fp) : ∃ o, H q = some o := by
  simp only [Cmd.fp, List.mem_cons, List.mem_nil_iff, or_false] at h
  rcases h with e | e | e <;> rw [e]
  · exact ⟨_, c.ob⟩
  · exact ⟨_, c.hs⟩
  · exact ⟨_, c.hf⟩
theorem cmK_nd : cmK.Nodup := by decide +kernel
theorem cmV_len : cmK.length = (cmV z pv sv wv lv).length := rfl
theorem CmAt.set {pv' sv' wv' lv' : V} {f : Str} {y : V} {n : Nat} (c : CmAt K S H z pv sv wv lv kf) (hn : kIx (.inr f) cmK = n) (hl : n < 12) (e : (cmV z pv sv wv lv).set n y = cmV z' pv' sv' wv' lv') (ha : z'.a = z.a) (h1 : z'.s = z.s) (h2 : z'.f = z.f) (w1 : z'.said = z.said) (w2 : z'.copied = z.copied)
    (rg : Py.rep K S pv' z'.g) (rs : Py.rep K S sv' z'.st) (rw_ : Py.rep K S wv' z'.wait) (rl : Py.rep K S lv' z'.lacks) : CmAt K S (upd H z.a (.dK (putK (cmK.zip (cmV z pv sv wv lv)) (.inr f) y))) z' pv' sv' wv' lv' kf := by
  refine ⟨?_, rg, rs, rw_, rl, ?_, ?_, by rw [w2]; exact c.rf, by rw [h2, ha]; exact c.d1⟩
  · rw [ha, upd_same, putK_zip cmK_nd hn hl cmV_len, e]
  · rw [h1, w1, upd_ne c.ne_s]; exact c.hs
  · rw [h2, upd_ne c.d1]; exact c.hf
theorem CmAt.setS {l : List Int} (c : CmAt K S H z pv sv wv lv kf) : CmAt K S (upd H z.s (.lst (l.map V.int))) { z with said := l } pv sv wv lv kf :=
  ⟨by rw [upd_ne c.ne_s.symm]; exact c.ob, c.rg, c.rs, c.rw_, c.rl, upd_same, by show upd H z.s _ z.f = _; rw [upd_ne c.ne_sf.symm]; exact c.hf, c.rf, c.d1⟩
end
section
variable {K : Fg} {B S0 S1 S S' D : Hp} {σ : L2.St} {H H' : Hp} {F : Nat → List Addr} {G G' G1 G2 G3 : List Sl} {ta tb tc td te : TE} {i j l : Nat} {t u : TS} {E : Ends} {z z' : Cmd} {pv sv wv lv : V} {kf : List (Key × V)}
end
end GL
namespace L2
open PySem PySem.Spec PyProof.Rows
def rUpd : V → List V → Hp → VK → Prop := fun x xs H Q => ∃ a o kvs more, x = .ref a ∧ xs = [.ref o] ∧ H a = some (.dK kvs) ∧ H o = some (.dK more) ∧ a ≠ o ∧ kvs.length + more.length ≤ sizeLine ∧ Q .non (upd H a (.dK (mergeK kvs more)))
section
variable {X : Cx}
end
end L2
namespace GL
open PySem PySem.Spec PyProof.Rows L2
instance {α β γ : Type} [Py α] [Py β] [Py γ] [ToD α] [ToD β] [ToD γ] [Bck α] [Bck β] [Bck γ] : Bck (T3 α β γ) := ⟨fun {K S v x} h => by
  have h' : DRep K S v (.tup [ToD.dat x.a, ToD.dat x.b, ToD.dat x.c]) := h
  cases h' with
  | tup h1 h2 =>
    cases h2 with
    | cons r1 h2 =>
      cases h2 with
      | cons r2 h2 =>
        cases h2 with
        | cons r3 h2 =>
          cases h2
          exact ⟨_, _, _, _, rfl, h1, Bck.go r1, Bck.go r2, Bck.go r3⟩⟩
instance {α : Type} [Py α] [ToD α] [Bck α] : Bck (List α) := ⟨fun {K S v x} h => by
  have h' : DRep K S v (.lst (x.map ToD.dat)) := h
  cases h' with
  | lst h1 h2 => exact ⟨_, _, rfl, h1, bk_all h2⟩⟩
theorem drep_intV {K : Fg} {S : Hp} : ∀ {vs : List V} {l : List Int}, DRepL K S vs (l.map Dat.int) → vs = l.map V.int
  | _, [], h => by cases h; rfl
  | _, x :: l, h => by
    rw [List.map_cons] at h
    cases h with
    | cons h1 h2 =>
      cases h1
      rw [drep_intV h2]; rfl
instance : Bck WRow := ⟨fun {K S v x} h => by
  have h' : DRep K S v (.tup (.str x.word :: x.nums.map .int)) := h
  cases h' with
  | tup h1 h2 =>
    cases h2 with
    | cons r1 h2 =>
      cases r1
      rw [drep_intV h2] at h1
      exact ⟨_, rfl, h1⟩⟩
section
variable {K : Fg} {B S0 S1 S S' D : Hp} {σ : L2.St} {H H' : Hp} {F : Nat → List Addr} {G G' G1 G2 : List Sl} {te tm : TE} {i j : Nat} {t : TA} {u : TS} {E : Ends}
structure Kids (K : Fg) (S H : Hp) (vs : List V) (l ys : List Tr) : Prop where
  er : l.map erT = ys
  len : vs.length = l.length
  ok : ∀ (k : Nat) v c, vs[k]? = some v → l[k]? = some c → OkT K S H v c
theorem Kids.at_ {vs : List V} {l ys : List Tr} (h : Kids K S H vs l ys) {n : Nat} {y : Tr} (e : ys[n]? = some y) : ∃ v c, vs[n]? = some v ∧ l[n]? = some c ∧ erT c = y ∧ OkT K S H v c := by
  rw [← h.er, List.getElem?_map] at e
  cases q : l[n]? with
  | none => rw [q] at e; cases e
  | some c =>
    rw [q] at e
    have hn := (List.getElem?_eq_some_iff.mp q).1
    have hv := List.getElem?_eq_getElem (l := vs) (i := n) (by rw [h.len]; exact hn)
    exact ⟨_, c, hv, rfl, Option.some.inj e, h.ok n _ c hv q⟩
theorem Kids.lf {α : Type} [Py α] [ToD α] [Bck α] {x : α} {vs : List V} {l ys : List Tr} (h : Kids K S H vs l ys) {n : Nat} (e : ys[n]? = some (lf x)) : ∃ v, vs[n]? = some v ∧ Py.rep K S v x := by
  obtain ⟨v, c, h1, h2, h3, h4⟩ := h.at_ e
  unfold GL.lf at h3
  rw [er_isDat h3] at h4
  cases h4 with
  | dat r => exact ⟨v, h1, Bck.go r⟩
theorem Kids.nd {s : Sh} {vs : List V} {l ys : List Tr} (h : Kids K S H vs l ys) {n : Nat} (e : ys[n]? = some (.nod 0 s [])) (hs : s = .lst ∨ s = .dic []) : ∃ b, vs[n]? = some (.ref b) ∧ H b = some (hob s []) ∧ b ∈ fpL l := by
  obtain ⟨v, c, h1, h2, h3, h4⟩ := h.at_ e
  obtain ⟨b, s', l', rfl, g1, g2⟩ := er_isNod h3
  have hl : l' = [] := List.map_eq_nil_iff.mp g2
  subst hl
  have es : s' = s := by
    rcases hs with rfl | rfl
    · cases s' <;> (unfold erS at g1; cases g1) <;> rfl
    · exact erS_dic g1
  subst es
  cases h4 with
  | nod a1 a2 a3 a4 a5 a6 =>
    have : _ = [] := List.length_eq_zero_iff.mp a3
    subst this
    exact ⟨b, h1, a1, fp_sub (a := 0) (s := .lst) h2 (fp_nod.mpr (.inl rfl))⟩
def updK : List Key := [.inr "goal", .inr "copied", .inr "made"]
end
def spCm {α : Type} [PyA α] (K : Fg) (R : α → Cmd → Prop) (pre : α → Prop) : Sp := fun vs H Q _ => ∃ (S : Hp) (a : α), Same S H ∧ PyA.rep K S vs a ∧ pre a ∧
  ∀ (z : Cmd) S' H', R a z → Grow S H S' H' → (∀ p ∈ z.fp, H p = none ∧ S' p = none) → Own.own K S' H' (.ref z.a) z.fp z → Q (.ref z.a) H'
section
variable {K : Fg} {B S0 S1 S S' D : Hp} {σ : L2.St} {H H' : Hp} {F : Nat → List Addr} {G G' G1 G2 : List Sl} {te tm : TE} {i j : Nat} {t : TA} {u : TS} {E : Ends} {Ex : XK}
end
end GL
namespace GL
open PySem PySem.Spec PyProof.Rows L2
section
variable {ω α β : Type} [Own ω] [PyA α] [Py β] {K : Fg} {G : List Sl} {f : ω → α → β × ω} {pre : ω → α → Prop} {z : ω} {a : α} {t : TA} {E : XK} {i : Nat}
end
def spMN {ω α β : Type} [Own ω] [PyA α] [Py β] (K : Fg) (f : ω → α → List β × ω) (pre : ω → α → Prop) : Sp := fun vs H Q _ => ∃ (S : Hp) (v0 : V) (ws : List V) (ps : List Addr) (z : ω) (a : α), vs = v0 :: ws ∧ Same S H ∧ Own.own K S H v0 ps z ∧
  (∀ p ∈ ps, S p = none ∧ ∃ o, H p = some o) ∧ PyA.rep K S ws a ∧ pre z a ∧ ∀ p us S' H', Same S S' → Same S' H' → (∀ p o, p ∉ ps → H p = some o → H' p = some o) → (∀ p o, H p = some o → S' p = S p) → (∀ p ∈ ps, ∃ o, H' p = some o) →
    Own.own K S' H' v0 ps (f z a).2 → H p = none → S' p = none → H' p = some (.lst us) → RepL K S' us (f z a).1 → Q (.ref p) H'
section
variable {P : Program} {w : World} {K : Fg} {mg : Str → Option Value} {base : Heap} {α β : Type} [Sls α] [Py β] {C : Addr}
end
section
variable {C : Addr} {K : Fg} {B S0 S1 S S' D : Hp} {σ : L2.St} {H H' : Hp} {F : Nat → List Addr} {G G' G1 G2 : List Sl} {i j : Nat} {t : TA} {u : TS} {E : Ends} {Ex : XK} {m : Str}
variable {α β : Type} [PyA α] [Py β] {a : α} {f : Car C → α → List β × Car C} {pre : Car C → α → Prop} {z : Car C}
end
section
variable {K : Fg} {B S0 S1 S S' D : Hp} {σ : L2.St} {H H' : Hp} {F : Nat → List Addr} {G : List Sl} {i j n : Nat} {E : XK}
end
end GL
namespace GL
open PySem PySem.Spec PyProof.Rows L2
def adrs (l : List Tr) : List Al := l.map fun c => match c with
  | .nod a _ _ => ⟨a⟩
  | .dat _ => ⟨0⟩
def Nods (l : List Tr) : Prop := ∀ c ∈ l, ∃ a s l', c = Tr.nod a s l'
theorem enum_at {α : Type} {xs : List α} {x : Int × α} (h : x ∈ enumI xs) : 0 ≤ x.1 ∧ x.1 < (xs.length : Int) ∧ xs[x.1.toNat]? = some x.2 := by
  unfold enumI at h
  obtain ⟨⟨y, n⟩, hm, rfl⟩ := List.mem_map.mp h
  have := List.mem_zipIdx' hm
  refine ⟨Int.natCast_nonneg _, by dsimp only; exact_mod_cast this.1, ?_⟩
  dsimp only
  rw [Int.toNat_natCast, List.getElem?_eq_getElem this.1]
  exact congrArg some this.2.symm
def ItN {ω α : Type} [Own ω] [Py α] (K : Fg) (i : Nat) (z : ω) (wi : TI) (G : List Sl) (xs : List α) (G' : List Sl) : Prop :=
  ∀ B S0 S σ H F, Kn K B S0 S σ H F G → ∀ R : It → Hp → Prop, (∀ J S' H', Same S S' → Kn K B S0 S' σ H' F G' → (∀ B2 S02 S2 σ2 H2 F2 G2 n, Kn K B2 S02 S2 σ2 H2 F2 G2 → G2[i]? = some (.ow z) →
    (∀ x, xs[n]? = some x → J.go n H2 ∧ ∀ v H'', J.yld n H2 v H'' → ∃ S'', Grow S2 H2 S'' H'' ∧ Py.rep K S'' v x) ∧ (xs.length ≤ n → J.stop n H2)) → R J H') → wi σ H R
section
variable {K : Fg} {B S0 S1 S S' D : Hp} {σ : L2.St} {H H' : Hp} {F : Nat → List Addr} {G G' G2 : List Sl} {te : TE} {i : Nat} {z : Nd} {p : List Nat} {b : Addr} {l : List Tr}
end
section
variable {K : Fg} {B S0 S1 S S' D : Hp} {σ : L2.St} {H H' : Hp} {F : Nat → List Addr} {G : List Sl} {i0 : Nat} {ω : Type} [Own ω] {z : ω}
variable {α β τ : Type} [Py α] [Py β] {G1 : List Sl} {wi : TI} {g : TG} {tt : TT} {te : TE} {vs : List Nat} {xs : List α}
theorem el_lcXN (γ : τ → List Sl) (s0 : τ) (step : τ → α → τ) (f : τ → α → Bool) (e : τ → α → β) (hi : ItN K i0 z wi G xs (γ s0)) (hz : ∀ s, (γ s)[i0]? = some (.ow z)) (hl : xs.length ≤ 1000000)
    (hs : ∀ pre x post, pre ++ x :: post = xs → ∀ s, s = pre.foldl step s0 → ∃ G2 ts, TgG K g x (wipeG (γ s) vs) G2 ts ∧ (∀ t ∈ ts, t ∈ vs) ∧ ∃ G3 G4, EvT K tt G2 (f s x) G3 ∧ (f s x = true → EvX K te G3 (e s x) G4) ∧ (f s x = false → G4 = G3) ∧
      (∀ j sl, (γ (step s x))[j]? = some sl → (j ∉ vs ∧ G4[j]? = some sl) ∨ (sl.isOw = false ∧ (γ s)[j]? = some sl)) ∧ (γ (step s x)).length = (γ s).length) :
    EvL K (tLc wi g tt te vs) G ((xs.foldl (fun (a : List β × τ) x => (if f a.2 x = true then a.1 ++ [e a.2 x] else a.1, step a.2 x)) ([], s0)).1) (γ (xs.foldl step s0)) := fun B S0 S σ H F kn Q q =>
  hi B S0 S σ H F kn _ fun J S1 H1 e1 k1 wk D hD => by
    obtain ⟨a1, a2, a3⟩ := k1.free hD
    have hsnd : ∀ (l : List α) (a : List β) (s : τ), (l.foldl (fun (a : List β × τ) x => (if f a.2 x = true then a.1 ++ [e a.2 x] else a.1, step a.2 x)) (a, s)).2 = l.foldl step s := by
      intro l
      induction l with
      | nil => intro a s; rfl
      | cons x l ih => intro a s; rw [List.foldl_cons, List.foldl_cons]; exact ih _ _
    refine ⟨fun i m H => ∃ pre post S acc, pre ++ post = xs ∧ pre.length = i ∧ post.length = m ∧ Kn K B S0 S σ H F (γ (pre.foldl step s0)) ∧ Same S1 S ∧ S D = none ∧ H D = some (.lst acc) ∧ acc.length ≤ pre.length ∧ RepL K S acc ((pre.foldl (fun (a : List β × τ) x => (if f a.2 x = true then a.1 ++ [e a.2 x] else a.1, step a.2 x)) ([], s0)).1),
      ⟨xs.length, [], xs, S1, [], rfl, rfl, rfl, k1.raw hD, Same.refl _, a1, upd_same, Nat.le_refl _, True.intro⟩, ?_⟩
    rintro i m H' ⟨pre, post, S2, acc, ex, rfl, rfl, k2, s2, d2, hd2, hacc, r2⟩
    cases post with
    | nil =>
      refine .inl ⟨(wk B S0 S2 σ H' F _ pre.length k2 (hz _)).2 (by rw [← ex, List.append_nil]; exact Nat.le_refl _), ?_⟩
      rw [List.append_nil] at ex
      subst ex
      exact q D acc S2 H' (e1.trans s2) k2 d2 a2 a3 hd2 r2
    | cons x post =>
      have hx : xs[pre.length]? = some x := by
        rw [← ex, List.getElem?_append_right (Nat.le_refl _), Nat.sub_self]
        rfl
      obtain ⟨go, yl⟩ := (wk B S0 S2 σ H' F _ pre.length k2 (hz _)).1 x hx
      have hlen : pre.length < 1000000 := by
        have := congrArg List.length ex
        rw [List.length_append, List.length_cons] at this
        omega
      refine .inr ⟨go, fun H => ∃ S acc, Kn K B S0 S σ H F (γ ((pre ++ [x]).foldl step s0)) ∧ Same S1 S ∧ S D = none ∧ H D = some (.lst acc) ∧ acc.length ≤ (pre ++ [x]).length ∧ RepL K S acc (((pre ++ [x]).foldl (fun (a : List β × τ) x => (if f a.2 x = true then a.1 ++ [e a.2 x] else a.1, step a.2 x)) ([], s0)).1), ?_, ?_⟩
      · rintro H3 ⟨S3, acc3, k3, s3, d3, hd3, ha3, r3⟩
        exact ⟨post.length, by rw [List.length_cons]; omega, pre ++ [x], post, S3, acc3, by rw [← ex, List.append_assoc]; rfl, by rw [List.length_append]; rfl, rfl, k3, s3, d3, hd3, ha3, r3⟩
      · intro v H3 y
        obtain ⟨S3, gr, r⟩ := yl v H3 y
        obtain ⟨G2, ts, tg, hts, G3, G4, ht, he, hn, hG, hlG⟩ := hs pre x post ex _ rfl
        have k3 := k2.grow gr
        have hd3 := gr.h D _ hd2
        have d3 : S3 D = none := (gr.cl D _ hd2).trans d2
        have kp := (k3.wipe vs).pin hd3 d3 a3
        have ef : (pre ++ [x]).foldl step s0 = step (pre.foldl step s0) x := by rw [List.foldl_append]; rfl
        have ea : ((pre ++ [x]).foldl (fun (a : List β × τ) x => (if f a.2 x = true then a.1 ++ [e a.2 x] else a.1, step a.2 x)) ([], s0)).1 =
            if f (pre.foldl step s0) x = true then (pre.foldl (fun (a : List β × τ) x => (if f a.2 x = true then a.1 ++ [e a.2 x] else a.1, step a.2 x)) ([], s0)).1 ++ [e (pre.foldl step s0) x] else (pre.foldl (fun (a : List β × τ) x => (if f a.2 x = true then a.1 ++ [e a.2 x] else a.1, step a.2 x)) ([], s0)).1 := by
          rw [List.foldl_append, List.foldl_cons, List.foldl_nil, hsnd]
        rw [ef, ea]
        refine tg.2 (upd B D (.lst acc)) S0 S3 _ H3 F v kp r _ fun σ4 k4 o4 w4 => ⟨?_, ?_⟩
        · rw [w4 vs hts]
          apply List.ext_getElem?
          intro j
          rw [wipe_get, wipe_get, wipe_length]
          by_cases c : j ∈ vs ∧ j < σ.length
          · rw [if_pos c, if_pos c]
          · rw [if_neg c, if_neg c]
        · have hσ : ∀ j : Nat, j ∉ vs → σ4[j]? = σ[j]? := fun j hj => (o4 j fun q => hj (hts j q)).trans (wipe_get' hj)
          refine ht (upd B D (.lst acc)) S0 S3 σ4 H3 F k4 _ fun S5 H5 e5 k5 => ?_
          cases hf : f (pre.foldl step s0) x with
          | false =>
            have e4 := hn hf
            subst e4
            simp only [Bool.false_eq_true, if_false]
            have hd5 : H5 D = some (.lst acc) := k5.keep _ _ upd_same
            have d5 : S5 D = none := (k5.clean D _ upd_same).trans (k3.s0.free d3)
            exact ⟨S5, acc, Kn.outer k3 e5 k5 (same_new a2) hσ hG hlG, (s2.trans gr.s).trans e5, d5, hd5, by rw [List.length_append]; omega, r2.mono (gr.s.trans e5)⟩
          | true =>
            simp only [if_true]
            refine he hf (upd B D (.lst acc)) S0 S5 σ4 H5 F k5 _ fun v6 S6 H6 e6 k6 r6 => ?_
            have hd6 : H6 D = some (.lst acc) := k6.keep _ _ upd_same
            have d6 : S6 D = none := (k6.clean D _ upd_same).trans (k3.s0.free d3)
            refine ⟨acc, hd6, Nat.lt_of_le_of_lt hacc (Nat.lt_trans hlen (by decide)), S6, acc ++ [v6], (Kn.outer k3 (e5.trans e6) k6 (same_new a2) hσ hG hlG).poke d6 a2 a3, (s2.trans gr.s).trans (e5.trans e6), d6, upd_same, ?_, ?_⟩
            · rw [List.length_append, List.length_append]
              simp only [List.length_singleton]
              omega
            · exact (r2.mono (gr.s.trans (e5.trans e6))).snoc r6
theorem el_lcFN (f : α → Bool) (e : α → β) (hi : ItN K i0 z wi G xs G1) (hz : G1[i0]? = some (.ow z)) (hl : xs.length ≤ 1000000) (hw : (vs.all fun j => !((G1[j]?.map Sl.isOw).getD false)) = true)
    (hs : ∀ x, x ∈ xs → ∃ G2 ts, TgG K g x (wipeG G1 vs) G2 ts ∧ (∀ t ∈ ts, t ∈ vs) ∧ EvT K tt G2 (f x) G2 ∧ (f x = true → EvX K te G2 (e x) G2)) :
    EvL K (tLc wi g tt te vs) G ((xs.filter f).map e) G1 := by
  have h := el_lcXN (i0 := i0) (z := z) (K := K) (wi := wi) (g := g) (tt := tt) (te := te) (vs := vs) (G := G) (fun _ : Unit => G1) () (fun _ _ => ()) (fun _ => f) (fun _ => e) hi (fun _ => hz) hl (fun pre x post ex s _ => by
    obtain ⟨G2, ts, tg, hts, ht, he⟩ := hs x (by rw [← ex]; exact List.mem_append_right _ List.mem_cons_self)
    refine ⟨G2, ts, tg, hts, G2, G2, ht, he, fun _ => rfl, fun j sl hj => ?_, rfl⟩
    by_cases hv : j ∈ vs
    · have := List.all_eq_true.mp hw j hv
      rw [hj] at this
      exact .inr ⟨by simpa using this, hj⟩
    · refine .inl ⟨hv, ?_⟩
      rw [tg.1 j fun q => hv (hts j q), wipeG_get _ _ _ hv]
      exact hj)
  have e1 := foldl_fm f e xs []
  rw [List.nil_append] at e1
  rw [e1] at h
  exact h
end
section
variable {K : Fg} {B S0 S1 S S' D : Hp} {σ : L2.St} {H H' : Hp} {F : Nat → List Addr} {G : List Sl} {i0 : Nat} {ω : Type} [Own ω] {z : ω}
variable {α : Type} [Py α] {G1 : List Sl} {wi : TI} {g : TG} {tb u : TS} {E : Ends} {xs : List α}
end
end GL
namespace GL
open PySem PySem.Spec PyProof.Rows L2
def rAbs : List V → Hp → VK → Prop := fun xs H Q => ∃ i, xs = [.int i] ∧ Q (.int (if i < 0 then -i else i)) H
def absI (n : Int) : Int := if n < 0 then -n else n
def rIns : V → List V → Hp → VK → Prop := fun x vs H Q => ∃ (l : Addr) (xs : List V) (i : Int) (y : V), x = .ref l ∧ vs = [.int i, y] ∧ H l = some (.lst xs) ∧ xs.length < sizeLine ∧ 0 ≤ i ∧ i < 2 ^ 63 ∧
    Q .non (upd H l (.lst (xs.take i.toNat ++ [y] ++ xs.drop i.toNat)))
section
variable {K : Fg} {B S0 S1 S S' D : Hp} {σ : L2.St} {H H' : Hp} {F : Nat → List Addr} {G G' G1 G2 : List Sl} {ta tb te : TE} {i : Nat} {u : TS} {E : Ends} {α : Type} [Py α]
def insL (xs : List α) (n : Int) (x : α) : List α := xs.take n.toNat ++ [x] ++ xs.drop n.toNat
end
section
variable {K : Fg} {G G1 G2 : List Sl} {ta tb : TE} {α β γ : Type} [Py α] [Py β] [Py γ]
def pixI (x : α × α) (n : Int) : α := if n = 0 then x.1 else x.2
def t4i (x : T4 α α β γ) (n : Int) : α := if n = 0 then x.a else x.b
def t4j (x : T4 α γ β β) (n : Int) : β := if n = 2 then x.c else x.d
end
section
variable {K : Fg} {B S0 : Hp} {G G1 : List Sl} {t : TA} {u : TS} {E : Ends} {Ex : XK} {α β : Type} [Py α] [NoL α] [PyA β] {f : β → List α} {pre : β → Prop} {a : β}
end
end GL
namespace PyProof.Rows
open PySem PySem.Spec
section
variable {prog : Program} {w : World} {A : Around} {E : Value → Shared → Prop} {s : Shared}
end
end PyProof.Rows
namespace L2
open PySem PySem.Spec PyProof.Rows
section
variable {X : Cx}
def rSortedTN (K : PySem.W.Frag) : List V → Hp → VK → Prop := fun vs H Q => ∃ (a : Addr) (ns : List Int), vs = [V.ref a] ∧ SqT K H a (ns.map V.int) ∧
  ∀ (ms : List Int) (p : Addr), ms.Perm ns → ms.Pairwise (· ≤ ·) → H p = none → Q (.ref p) (upd H p (.lst (ms.map V.int)))
def tGlob (mg : Str → Option Value) (x : Str) : TE := fun _ H Q => ∃ a, mg x = some (.ref a) ∧ Q (.ref a) H
end
end L2
namespace GL
open PySem PySem.Spec PyProof.Rows L2
section
variable {K : Fg} {B S0 S1 S S' D : Hp} {σ : L2.St} {H H' : Hp} {F : Nat → List Addr} {G G' G1 G2 : List Sl} {ta tb te : TE} {i : Nat} {u : TS} {E : Ends} {α β γ δ : Type} [Py α] [Py β] [Py γ] [Py δ]
abbrev RSt := T4 Int Int (Tp Int) (Tp Int)
abbrev SPart := Sum Int (Tp Int)
instance : Inhabited SPart := ⟨.inl 0⟩
def sl4 (x : RSt) : List SPart := [.inl x.a, .inl x.b, .inr x.c, .inr x.d]
theorem rep4 {ε : Type} [Py ε] {vs : List V} {x y z w : ε} (h : RepL K S vs [x, y, z, w]) : ∃ a b c d, vs = [a, b, c, d] ∧ Py.rep K S a x ∧ Py.rep K S b y ∧ Py.rep K S c z ∧ Py.rep K S d w := by
  have hl := h.len
  rcases vs with _ | ⟨a, _ | ⟨b, _ | ⟨c, _ | ⟨d, _ | ⟨e, l⟩⟩⟩⟩⟩ <;> simp only [List.length_cons, List.length_nil] at hl <;> first | omega | skip
  exact ⟨a, b, c, d, rfl, h.1, h.2.1, h.2.2.1, h.2.2.2.1⟩
theorem EvX.st {xs : Tp SPart} (x : RSt) (h : EvX K te G xs G1) (e : xs.l = sl4 x) : EvX K te G x G1 := fun B S0 S σ H F k Q q => h B S0 S σ H F k Q fun v S' H' e1 k' r => q v S' H' e1 k' (by
  obtain ⟨p, vs, h1, h2, h3⟩ := r
  rw [e] at h3
  obtain ⟨a, b, c, d, rfl, r1, r2, r3, r4⟩ := rep4 h3
  exact ⟨p, a, b, c, d, h1, h2, r1, r2, r3, r4⟩)
def firstS : RSt := ⟨0, 0, ⟨[]⟩, ⟨[]⟩⟩
structure KTup (K : Fg) (a : Addr) (xs : List V) : Prop where
  at_ : ∃ (o : Obj) (its : Array Value) (n : Nat), K.lookup a = some o ∧ o.cls = .type "tuple" ∧ o.data = .seq its n ∧ its.size ≤ sizeLine ∧ Vals xs its.toList
def TFirst (K : Fg) (mg : Str → Option Value) (x : Str) : Prop := ∃ a e1 e2, mg x = some (.ref a) ∧ KTup K a [.int 0, .int 0, .ref e1, .ref e2] ∧ KTup K e1 [] ∧ KTup K e2 []
end
instance {α β γ δ : Type} [Py α] [Py β] [Py γ] [Py δ] [ToD α] [ToD β] [ToD γ] [ToD δ] : ToD (T4 α β γ δ) := ⟨fun x => .tup [ToD.dat x.a, ToD.dat x.b, ToD.dat x.c, ToD.dat x.d], fun ⟨p, a, b, c, d, h1, h2, h3, h4, h5, h6⟩ => by
  rw [h1]; exact .tup h2 (.cons (ToD.of h3) (.cons (ToD.of h4) (.cons (ToD.of h5) (.cons (ToD.of h6) .nil))))⟩
instance {α β γ δ : Type} [Py α] [Py β] [Py γ] [Py δ] : Ty (T4 α β γ δ) "tuple" := ⟨fun e ⟨p, a, b, c, d, h1, h2, _⟩ => by rw [h1]; exact tyT e h2⟩
instance {α β γ δ ε : Type} [Py α] [Py β] [Py γ] [Py δ] [Py ε] : Ty (T5 α β γ δ ε) "tuple" := ⟨fun e' ⟨p, a, b, c, d, e, h1, h2, _⟩ => by rw [h1]; exact tyT e' h2⟩
section
variable {α β γ δ : Type} [Py α] [Py β] [Py γ] [Py δ]
instance [Dt α] [Dt β] [Dt γ] [Dt δ] : Dt (T4 α β γ δ) := ⟨fun x => .tuple [Dt.dat x.a, Dt.dat x.b, Dt.dat x.c, Dt.dat x.d], fun z ⟨p, a, b, c, d, h1, h2, h3, h4, h5, h6⟩ => by rw [h1]; exact .tup (seqT z h2) (.cons (Dt.dp z h3) (.cons (Dt.dp z h4) (.cons (Dt.dp z h5) (.cons (Dt.dp z h6) .nil)))),
  fun x => by simp [PyData.canLay0, PyData.canLayAll0, Dt.lay], max (Dt.dep α) (max (Dt.dep β) (max (Dt.dep γ) (Dt.dep δ))) + 1, fun x => by
    have h1 := Dt.dle x.a
    have h2 := Dt.dle x.b
    have h3 := Dt.dle x.c
    have h4 := Dt.dle x.d
    simp only [PyData.depth, PyData.depthAll]
    omega, fun x y => by
    simp only [PyData.eqv, PyData.eqvAll, Bool.and_eq_true, Dt.eq, and_true]
    cases x; cases y; simp⟩
end
theorem takes_never {X : Cx} : Takes X (fun _ _ _ _ => False) := fun u s' ⟨_, _, _, _, _, _, _, _, _, _, _, _, _, _, _, _, w⟩ => w.elim
section
variable {K : Fg} {G G1 : List Sl} {t : TA} {α β : Type} [PyA α] [Py β] {Y : XC → Addr} {W : WX}
end
section
variable {K : Fg} {G G1 : List Sl} {te : TE} {α : Type} [Py α] [ToD α]
end
mutual
def Dat.pd : Dat → PyData
  | .non => .none
  | .int i => .int i
  | .bl b => .bool b
  | .str s => .str s
  | .tup l => .tuple (pdL l)
  | .lst l => .list (pdL l)
def pdL : List Dat → List PyData
  | [] => []
  | d :: l => d.pd :: pdL l
end
mutual
theorem DRep.dp {K : Fg} {S : Hp} : ∀ {v : V} {d : Dat}, DRep K S v d → Dp K S v d.pd
  | _, _, .non => .non
  | _, _, .int i => .int i
  | _, _, .bl i => .bl i
  | _, _, .str i => .str i
  | _, _, .tup h r => .tup h (DRepL.dp r)
  | _, _, .lst h r => .lst (SqL.of h) (DRepL.dp r)
theorem DRepL.dp {K : Fg} {S : Hp} : ∀ {vs : List V} {l : List Dat}, DRepL K S vs l → DpAll K S vs (pdL l)
  | _, _, .nil => .nil
  | _, _, .cons h r => .cons (DRep.dp h) (DRepL.dp r)
end
mutual
theorem pd_refl : ∀ d : Dat, PyData.eqv d.pd d.pd = true
  | .non => by simp [Dat.pd, PyData.eqv]
  | .int i => by simp [Dat.pd, PyData.eqv]
  | .bl b => by simp [Dat.pd, PyData.eqv]
  | .str s => by simp [Dat.pd, PyData.eqv]
  | .tup l => by simp [Dat.pd, PyData.eqv, pdL_refl l]
  | .lst l => by simp [Dat.pd, PyData.eqv, pdL_refl l]
theorem pdL_refl : ∀ l : List Dat, PyData.eqvAll (pdL l) (pdL l) = true
  | [] => by simp [pdL, PyData.eqvAll]
  | d :: l => by simp [pdL, PyData.eqvAll, pd_refl d, pdL_refl l]
end
inductive DPl : Nat → Dat → Prop
  | non {k : Nat} : DPl k .non
  | int {k : Nat} {i : Int} : DPl k (.int i)
  | bl {k : Nat} {i : Bool} : DPl k (.bl i)
  | str {k : Nat} {s : Str} : (PyData.str s).canLay0 = true → DPl k (.str s)
  | tup {k : Nat} {l : List Dat} : (∀ x ∈ l, DPl k x) → DPl (k + 1) (.tup l)
  | lst {k : Nat} {l : List Dat} : (∀ x ∈ l, DPl k x) → DPl (k + 1) (.lst l)
theorem pl_all {k : Nat} : ∀ {l : List Dat}, (∀ x ∈ l, x.pd.canLay0 = true ∧ x.pd.depth ≤ k) → PyData.canLayAll0 (pdL l) = true ∧ PyData.depthAll (pdL l) ≤ k
  | [], _ => ⟨rfl, Nat.zero_le _⟩
  | x :: l, h => by
    obtain ⟨a, b⟩ := h x List.mem_cons_self
    obtain ⟨c, d⟩ := pl_all (l := l) fun y hy => h y (List.mem_cons_of_mem _ hy)
    refine ⟨by rw [pdL, PyData.canLayAll0, a, c]; rfl, ?_⟩
    rw [pdL]
    simp only [PyData.depthAll]
    omega
theorem DPl.lay {k : Nat} {d : Dat} (h : DPl k d) : d.pd.canLay0 = true ∧ d.pd.depth ≤ k := by
  induction h with
  | non => exact ⟨rfl, Nat.zero_le _⟩
  | int => exact ⟨rfl, Nat.zero_le _⟩
  | bl => exact ⟨rfl, Nat.zero_le _⟩
  | str h => exact ⟨h, Nat.zero_le _⟩
  | tup _ ih =>
    obtain ⟨a, b⟩ := pl_all ih
    exact ⟨by rw [Dat.pd, PyData.canLay0]; exact a, by rw [Dat.pd, PyData.depth]; exact Nat.succ_le_succ b⟩
  | lst _ ih =>
    obtain ⟨a, b⟩ := pl_all ih
    exact ⟨by rw [Dat.pd, PyData.canLay0]; exact a, by rw [Dat.pd, PyData.depth]; exact Nat.succ_le_succ b⟩
theorem DPl.up {k : Nat} {d : Dat} (h : DPl k d) : DPl (k + 1) d := by
  induction h with
  | non => exact .non
  | int => exact .int
  | bl => exact .bl
  | str h => exact .str h
  | tup _ ih => exact .tup ih
  | lst _ ih => exact .lst ih
theorem DPl.shaped {k : Nat} {d : Dat} (h : DPl k d) (hk : k ≤ 64) : SeqAt.shaped d.pd = true := by
  obtain ⟨a, b⟩ := h.lay
  unfold SeqAt.shaped
  rw [a, decide_eq_true (Nat.le_trans b hk)]
  rfl
section
variable {K : Fg} {G G1 G2 : List Sl} {ta tb : TE} {k : Nat}
end
end GL
namespace GL
open PySem PySem.Spec PyProof.Rows L2
structure Hv where
  o : Option Int
def Hv.vs (x : Hv) : List V := match x.o with
  | none => [.str (Str.ofString "there")]
  | some h => [.str (Str.ofString "on"), .int h]
def Hv.dat (x : Hv) : Dat := match x.o with
  | none => thereD
  | some h => onD (some h)
instance : Py Hv := ⟨fun K S v x => ∃ p, v = .ref p ∧ SqT K S p x.vs, fun e ⟨p, h1, h2⟩ => ⟨p, h1, seqT e h2⟩⟩
instance : PyF Hv := trivF Hv
instance : PyT Hv := ⟨fun h => h⟩
instance : NoLF Hv := ⟨fun {K D S p us o v x} hd hs ⟨q, h1, h2⟩ => ⟨q, h1, nlT hs h2⟩⟩
section
variable {K : Fg} {B S0 S1 S S' D : Hp} {σ : L2.St} {H H' : Hp} {F : Nat → List Addr} {G G' G1 G2 : List Sl} {ta tb te : TE} {i j : Nat} {t tr t2 : TA} {u : TS} {E : Ends} {g : TG} {P : L2.St → Hp → Prop}
theorem ev_hv0 : EvX K (tTup (tCons (tC (.str (Str.ofString "there"))) tNil)) G (Hv.mk none) G := fun B S0 S σ H F k Q q => ⟨by show 1 ≤ sizeLine; decide, fun p hp => q (.ref p) _ _ (same_new (k.free hp).1) (k.new hp) ⟨p, rfl, SqT.of upd_same⟩⟩
theorem EvX.hvD {x : Hv} (h : EvX K te G x G1) : EvX K te G x.dat G1 := fun B S0 S σ H F k Q q => h B S0 S σ H F k Q fun v S' H' e k' r => q v S' H' e k' (by
  obtain ⟨p, h1, h2⟩ := r
  rcases x with ⟨_ | hh⟩
  · exact h1 ▸ .tup h2 (.cons (ToD.of (α := Str) rfl) .nil)
  · exact h1 ▸ .tup h2 (.cons (ToD.of (α := Str) rfl) (.cons (ToD.of (α := Option Int) (x := Option.some hh) rfl) .nil)))
def EvU {α : Type} [Py α] (K : Fg) (te : TE) (G : List Sl) (y : α) (G1 : List Sl) : Prop := EvMv K te G (fun _ : Unit => True) (fun _ => y) (fun _ => G1)
def EvAU {α : Type} [PyA α] (K : Fg) (t : TA) (G : List Sl) (x : α) (G1 : List Sl) : Prop :=
  ∀ B S0 S σ H F, Kn K B S0 S σ H F G → ∀ Q : List V → Hp → Prop, (∀ vs S' H' F', Same S S' → Kn K B S0 S' σ H' F' G1 → PyA.rep K S' vs x → Q vs H') → t σ H Q
def EvLU {α : Type} [Py α] (K : Fg) (t : TA) (G : List Sl) (xs : List α) (G1 : List Sl) : Prop :=
  ∀ B S0 S σ H F, Kn K B S0 S σ H F G → ∀ Q : List V → Hp → Prop, (∀ vs S' H' F', Same S S' → Kn K B S0 S' σ H' F' G1 → RepL K S' vs xs → Q vs H') → t σ H Q
section
variable {α β : Type} [Py α] [Py β] {x : α} {xs : List α}
theorem eau_of {α : Type} [PyA α] {x : α} (h : EvA K t G x G1) : EvAU K t G x G1 := fun B S0 S σ H F k Q q => h B S0 S σ H F k Q fun vs S' H' e k' r => q vs S' H' F e k' r
theorem eau_cons {δ : Type} [PyA δ] {xs : δ} (h : EvU K ta G x G1) (hr : EvAU K tr G1 xs G2) : EvAU K (tCons ta tr) G (x, xs) G2 := fun B S0 S σ H F k Q q =>
  h B S0 S σ H F k _ fun _ _ v S1 H1 F1 e1 k1 r1 => hr B S0 S1 σ H1 F1 k1 _ fun vs S2 H2 F2 e2 k2 r2 => q (v :: vs) S2 H2 F2 (e1.trans e2) k2 ⟨v, vs, rfl, Py.mono e2 r1, r2⟩
end
section
variable {α τ : Type} [Py α] {R : τ → Prop} {x : τ → α} {y : α} {st : τ → List Sl} {tt uu : TT} {b : τ → Bool} {c : Bool}
end
section
variable {μ α β : Type} [Shp μ] {C : Addr} {ks : List Str} [ObS μ C ks] [PyA α] [Py β] {x x1 : Ob μ} {a : α} {f : μ → α → XC ⊕ (β × μ)} {pre : μ → α → Prop} {Y : XC → Addr} {W : WX} {m : Str} {y : β} {n : μ}
theorem evu_meth (hm : m ∉ ks) (hi : G[i]? = some (.ow x)) (ha : EvAU K t G a G1) (hi1 : G1[i]? = some (.ow x1)) (ex : x1.a = x.a) (hp : pre x1.m a) (he : f x1.m a = .inr (y, n)) :
    EvU K (tMethW C m (spT K Y f pre) (WE W) (tVar i) t) G y (G1.set i (.ow (Ob.mk x.a n))) := fun B S0 S σ H F kn Q q => by
  obtain ⟨h1, dx, vs0, h2⟩ := ob_at kn hi
  refine ⟨.ref x.a, h1, x.a, dx, _, rfl, h2, look_none hm, ha B S0 S σ H F kn _ fun vs S1 H1 F1 e1 k1 r1 => ?_⟩
  refine callOR k1 h1 hi1 r1 hp (fun y1 x' hR v S' H' F' s k r => ?_) fun e hf S' H' F' k => ?_
  · have ee := ob_eq rfl (hR.2.trans ex)
    have e2 := he.symm.trans hR.1
    cases e2
    rw [ee] at k
    exact q () True.intro v S' H' F' (e1.trans s) k r
  · have hf : f x1.m a = .inl e := hf
    rw [he] at hf; cases hf
end
section
variable {α δ : Type} [Py α] [ToD α] [Bck α] [Py δ] {xs : List α} {a : Addr} {y : δ}
end
end
section
variable {P : Program} {w : World} {K : Fg} {mg : Str → Option Value} {base : Heap} {ω η α β : Type} [Own ω] [Rad ω] [Own η] [Rad η] [Sls α] [Py β] {S H : Hp}
theorem start_knR2 {v0 v1 : V} {ps qs : List Addr} {z : ω} {y : η} {vs : List V} {a : α} {N : List Str} (e : Same S H) (ho : Own.own K S H v0 ps z) (hy : Own.own K S H v1 qs y) (hps : ∀ p ∈ ps, S p = none ∧ ∃ o, H p = some o) (hqs : ∀ p ∈ qs, S p = none ∧ ∃ o, H p = some o) (hd : ∀ p ∈ ps, p ∉ qs) (r : PyA.rep K S vs a) :
    Kn K (fun p => if p ∈ ps ∨ p ∈ qs then none else H p) S S (L2.start N (v0 :: v1 :: vs)) H (fun i => if i = 0 then ps else if i = 1 then qs else []) (.ow z :: .ow y :: Sls.sls a ++ List.replicate (N.length - (PyA.n α + 2)) .no) := by
  obtain ⟨l, q⟩ := Sls.ok (H := H) r
  have hn := PyA.len r
  have hF : ∀ i p, p ∈ (if i = 0 then ps else if i = 1 then qs else []) → (i = 0 ∧ p ∈ ps) ∨ (i = 1 ∧ p ∈ qs) := fun i p hp => by
    by_cases c : i = 0
    · rw [if_pos c] at hp
      exact .inl ⟨c, hp⟩
    · rw [if_neg c] at hp
      by_cases c' : i = 1
      · rw [if_pos c'] at hp
        exact .inr ⟨c', hp⟩
      · rw [if_neg c'] at hp
        cases hp
  refine ⟨Same.refl _, e, fun p o hp => ?_, fun _ _ _ => rfl, fun i p hp => ?_, fun i j p hp hp' => ?_, ?_, fun i s hi => ?_⟩
  · by_cases m : p ∈ ps ∨ p ∈ qs
    · rw [if_pos m] at hp
      cases hp
    · rw [if_neg m] at hp
      exact hp
  · rcases hF i p hp with ⟨_, m⟩ | ⟨_, m⟩
    · exact ⟨(hps p m).1, if_pos (.inl m), (hps p m).2⟩
    · exact ⟨(hqs p m).1, if_pos (.inr m), (hqs p m).2⟩
  · rcases hF i p hp with ⟨c, m⟩ | ⟨c, m⟩ <;> rcases hF j p hp' with ⟨c', m'⟩ | ⟨c', m'⟩
    · rw [c, c']
    · exact absurd m' (hd p m)
    · exact absurd m (hd p m')
    · rw [c, c']
  · unfold L2.start
    simp only [List.length_append, List.length_map, List.length_replicate, List.length_cons, l, hn]
  · unfold L2.start
    match i with
    | 0 =>
      simp only [List.cons_append, List.getElem?_cons_zero, Option.some.injEq] at hi
      subst hi
      exact ⟨v0, rfl, ho⟩
    | 1 =>
      simp only [List.cons_append, List.getElem?_cons_zero, List.getElem?_cons_succ, Option.some.injEq] at hi
      subst hi
      exact ⟨v1, rfl, hy⟩
    | i + 2 =>
      simp only [List.cons_append, List.getElem?_cons_succ, List.map_cons] at hi ⊢
      by_cases c : i < (Sls.sls a).length
      · rw [List.getElem?_append_left c] at hi
        rw [List.getElem?_append_left (by rw [List.length_map, ← l]; exact c)]
        have := q i s hi
        rw [if_neg (by omega), if_neg (by omega)]
        exact this
      · rw [List.getElem?_append_right (by omega)] at hi
        have : s = .no := by
          have := List.mem_of_getElem? hi
          exact List.eq_of_mem_replicate this
        subst this
        exact True.intro
theorem def_spR2 {x : Str} {st : Stmt} {N ps : List Str} {k : Nat} {R : ω → η → α → β → ω → η → Prop} {pre : ω → η → α → Prop} (D : Def K mg x st ps) (S : FnScope N ps (defScope st)) (hn : PyA.n α + 2 = ps.length)
    (h : ∀ (fa : Addr) (cdv : Value) (A : Around) (outer : List Env) (s : Shared) (H : Hp) (E : XK), Room k (A.deeper (envOfC x (defScope st) s.heap.objs.size fa cdv)) →
      ∃ t, PSs (cxOf CX0 P w K mg base N x (defScope st) fa cdv A outer s H E).nox (defBody st) t ∧
        ∀ (z : ω) (y : η) (a : α), pre z y a → ∀ (B S0 : Hp) (Q : VK), (∀ (G' : List Sl) b (z' : ω) (y' : η), G'[0]? = some (.ow z') → G'[1]? = some (.ow y') → Rad.ra z' = Rad.ra z → Rad.ra y' = Rad.ra y → R z y a b z' y' → RT K B S0 Q b G') →
          At K B S0 (t { nx := fun _ H' => Q .non H', rt := Q }) (.ow z :: .ow y :: Sls.sls a ++ List.replicate (N.length - (PyA.n α + 2)) .no)) :
    Cal P w K mg base (k + 1) x ps (spO2 K R pre) := by
  obtain ⟨fa, fd, m, Fu, b⟩ := D.ex
  refine ⟨fa, fd, m, Fu.ok S (fun vs H Q E ⟨S, v0, v1, ws, ps, qs, z, y, a, e, _, _, _, _, _, _, r, _⟩ => by rw [e, List.length_cons, List.length_cons, PyA.len r]; exact hn) fun cdv A outer s H vs Q E hr ⟨S', v0, v1, ws, ps', qs', z, y, a, e, es, ho, hy, hps, hqs, hd, r, hp, q⟩ => ?_, Fu.kp, b⟩
  subst e
  obtain ⟨t, h1, h2⟩ := h fa cdv A outer s H E hr
  refine ⟨t, h1, ?_⟩
  refine h2 z y a hp _ S' Q (fun G' b z' y' hz hy' ea eb hR S1 σ1 H1 F1 v k1 r1 => ?_) S' _ H _ (start_knR2 (N := N) es ho hy hps hqs hd r)
  obtain ⟨u0, _, o1⟩ := k1.ow hz
  obtain ⟨u1, _, o2⟩ := k1.ow hy'
  have ev0 : u0 = v0 := by rw [Rad.at_ o1, Rad.at_ ho, ea]
  have ev1 : u1 = v1 := by rw [Rad.at_ o2, Rad.at_ hy, eb]
  rw [ev0] at o1
  rw [ev1] at o2
  have hB : ∀ p o, p ∉ ps' → p ∉ qs' → H p = some o → (if p ∈ ps' ∨ p ∈ qs' then none else H p) = some o := fun p o m m' e => by rw [if_neg (fun c => c.elim m m')]; exact e
  have hF : ∀ i p, p ∈ F1 i → S1 p = none ∧ (∃ o, H1 p = some o) ∧ (p ∈ ps' ∨ p ∈ qs' ∨ H p = none) := fun i p m => by
    obtain ⟨a1, a2, a3⟩ := k1.off i p m
    refine ⟨a1, a3, ?_⟩
    by_cases c : p ∈ ps'
    · exact .inl c
    · by_cases c' : p ∈ qs'
      · exact .inr (.inl c')
      · rw [if_neg (fun d => d.elim c c')] at a2
        exact .inr (.inr a2)
  exact q v S1 H1 (F1 0) (F1 1) b z' y' hR k1.s0 k1.sub (fun p o m m' e => k1.keep p o (hB p o m m' e)) (fun p o m m' e => k1.clean p o (hB p o m m' e)) (hF 0) (hF 1) (fun p m m' => absurd (k1.dj 0 1 p m m') (by decide)) o1 o2 r1
end
end GL
namespace GL
open PySem PySem.Spec PyProof.Rows L2
section
variable {K : Fg} {B S0 S1 S S' D : Hp} {σ : L2.St} {H H' : Hp} {F : Nat → List Addr} {G G' G1 G2 : List Sl} {ta te : TE} {i j : Nat} {t : TA} {u : TS} {E : Ends} {X : XK}
section
variable {ω α β : Type} [Own ω] [PyA α] [Py β] {z z1 : ω} {a : α} {R : ω → α → β → ω → Prop} {pre : ω → α → Prop}
end
theorem def_spOG {P : Program} {w : World} {mg : Str → Option Value} {base : Heap} {ω α β : Type} [Own ω] [Rad ω] [Sls α] [Py β] {R : ω → α → β → ω → Prop} {pre : ω → α → Prop} {x : Str} {st : Stmt} {N ps : List Str} {k : Nat} (D : Def K mg x st ps) (S : FnScope N ps (defScope st)) (hn : PyA.n α + 1 = ps.length)
    (h : ∀ (fa : Addr) (cdv : Value) (A : Around) (outer : List Env) (s : Shared) (H : Hp) (E : XK), Room k (A.deeper (envOfC x (defScope st) s.heap.objs.size fa cdv)) →
      ∃ t, PSs (cxOf CX0 P w K mg base N x (defScope st) fa cdv A outer s H E).nox (defBody st) t ∧
        ∀ (z : ω) (a : α), pre z a → ∀ (B S0 : Hp) (Q : VK), (∀ (G' : List Sl) y (z' : ω), G'[0]? = some (.ow z') → Rad.ra z' = Rad.ra z → R z a y z' → RT K B S0 Q y G') →
          At K B S0 (t { nx := fun _ H' => Q .non H', rt := Q }) (.ow z :: Sls.sls a ++ List.replicate (N.length - (PyA.n α + 1)) .no)) :
    Cal P w K mg base (k + 1) x ps (spO K R pre) := by
  obtain ⟨fa, fd, m, Fu, b⟩ := D.ex
  refine ⟨fa, fd, m, Fu.ok S (fun vs H Q E ⟨S, v0, ws, qs, z, a, e, _, _, _, r, _⟩ => by rw [e, List.length_cons, PyA.len r]; exact hn) fun cdv A outer s H vs Q E hr ⟨S', v0, ws, qs, z, a, e, es, ho, hqs, r, hp, q⟩ => ?_, Fu.kp, b⟩
  obtain ⟨t, h1, h2⟩ := h fa cdv A outer s H E hr
  refine ⟨t, h1, body_spOR (Y := fun _ => 0) (Rf := fun _ _ _ => False) (E := E) ⟨S', v0, ws, qs, z, a, e, es, ho, hqs, r, hp, fun v S2 H2 ps' y z' hR w ho' r2 => q v S2 H2 ps' y z' hR w.s w.sub w.h w.cl w.off ho' r2, fun _ _ _ _ f => f.elim⟩ fun z a hp B S0 Q hret _ => h2 z a hp B S0 Q hret⟩
def spNT {α μ : Type} [PyA α] [Shp μ] (K : Fg) (f : α → μ) (pre : α → Prop) : Sp := fun vs H Q _ => ∃ (S : Hp) (a : α), Same S H ∧ PyA.rep K S vs a ∧ pre a ∧
  ∀ (z : Nd) S' H', Shp.rel z (f a) → Grow S H S' H' → (∀ p ∈ z.fp, H p = none ∧ S' p = none) → Own.own K S' H' (.ref z.a) z.fp z → Q (.ref z.a) H'
end
end GL
namespace GL
open PySem PySem.Spec PyProof.Rows L2
section
variable {l L : List Tr} {n : Nat}
end
structure Ltr where
  who : Int
  here : Bool
  cop : List (Int × Int)
instance : Inhabited Ltr := ⟨⟨0, false, []⟩⟩
structure PMd where
  houses : Int
  road : List Int
  known : List Int
  lets : List Ltr
  taken : List Int
def cpT (x : Int × Int) : Tr := .nod 0 .lst [lf x.1, lf x.2]
def ltK : List Key := [.inr "sender", .inr "here", .inr "copies"]
def ltT (x : Ltr) : Tr := .nod 0 (.dic ltK) [lf x.who, lf x.here, .nod 0 .lst (x.cop.map cpT)]
def pmK : List Key := [.inr "houses", .inr "road", .inr "known", .inr "letters", .inr "taken"]
def pmL (m : PMd) : List Tr := [lf m.houses, .nod 0 .lst (lvs m.road), .nod 0 .lst (lvs m.known), .nod 0 .lst (m.lets.map ltT), .nod 0 .lst (lvs m.taken)]
def pmT (m : PMd) : Tr := .nod 0 (.dic pmK) (pmL m)
instance : Shp PMd := ⟨fun z m => erT z.t = pmT m⟩
section
variable {K : Fg} {G : List Sl} {i : Nat} {z : Nd} {m : PMd}
variable (hi : G[i]? = some (.ow z)) (hz : erT z.t = pmT m)
include hi hz
end
section
variable {K : Fg} {G : List Sl} {i : Nat} {z : Nd} {m : PMd} {l l' : List Tr} {te ti : TE} {p : List Nat} {b : Addr} {x : Ltr}
section
variable (h : EvN K te G i z p b (.dic ltK) l) (e : l.map erT = [lf x.who, lf x.here, .nod 0 .lst (x.cop.map cpT)])
include h e
end
end
end GL
namespace GL
open PySem PySem.Spec PyProof.Rows L2
structure Om (μ : Type) where
  z : Nd
  m : μ
instance {μ : Type} [Shp μ] : Own (Om μ) := ⟨fun K S H v ps x => Shp.rel x.z x.m ∧ Own.own K S H v ps x.z, fun e a ⟨h1, h2⟩ => ⟨h1, Own.mono e a h2⟩⟩
instance {μ : Type} [Shp μ] : Rad (Om μ) := ⟨fun x => x.z.a, fun ⟨_, h⟩ => own_ref h⟩
structure AlP where
  a : Addr
  p : List Nat
instance : Py AlP := ⟨fun _ _ v x => v = .ref x.a, fun _ h => h⟩
section
variable {K : Fg} {B S0 S1 S S' D : Hp} {σ : L2.St} {H H' : Hp} {F : Nat → List Addr} {G G' G1 G2 : List Sl} {te : TE} {i j : Nat} {P : L2.St → Hp → Prop} {μ : Type} [Shp μ] {x : Om μ} {z : Nd} {m : μ} {p q : List Nat} {b : Addr} {s : Sh} {l : List Tr}
end
def awayM (R : List Int) (h : Int) : List Int := ((rng 0 ((R.length : Int) - 1)).filter fun k => decide (ix R k = h)).map fun k => k
def modelM (h a s : Int) : PMd := ⟨h, [a], List.replicate s.toNat 0, [], List.replicate s.toNat 0⟩
def mineM (m : PMd) (i : Int) : List Int := (rng 0 (m.lets.length : Int)).filter fun k => decide ((ix m.lets k).who = i)
def takeD (m : PMd) (i : Int) : Option Int × PMd :=
  if ix m.taken i = ((mineM m i).length : Int) ∨ (ix m.lets (ix (mineM m i) (ix m.taken i))).here = false then (none, m) else (some (ix (mineM m i) (ix m.taken i)), { m with taken := m.taken.set i.toNat (ix m.taken i + 1) })
def noLetterD : Dat := .str (Str.ofString "noletter")
def setL (m : PMd) (k j : Int) (c : Int × Int) (h : Bool) : PMd := { m with lets := m.lets.set k.toNat { ix m.lets k with cop := (ix m.lets k).cop.set j.toNat c, here := h } }
def hopD (m : PMd) (k j : Int) : Dat × PMd :=
  if (ix (ix m.lets k).cop j).1 < 0 then (noLetterD, m)
  else if ix m.road (ix (ix m.lets k).cop j).1 = lastI m.road then (thereD, setL m k j (-1, (ix (ix m.lets k).cop j).2) true)
  else (onD (some (ix m.road (maxL (awayM m.road (ix m.road (ix (ix m.lets k).cop j).1)) + 1))), setL m k j (maxL (awayM m.road (ix m.road (ix (ix m.lets k).cop j).1)) + 1, (ix (ix m.lets k).cop j).2 + 1) (ix m.lets k).here)
theorem enum_fst {α : Type} {xs : List α} {g : Int → Bool} : ((enumI xs).filter fun x => g x.1).map (fun x => x.1) = (rng 0 (xs.length : Int)).filter g := by
  have h : (enumI xs).map (fun x => x.1) = rng 0 (xs.length : Int) := by
    apply List.ext_getElem?
    intro n
    unfold enumI rng
    rw [List.map_map, List.getElem?_map, List.getElem?_map, List.getElem?_zipIdx]
    by_cases c : n < xs.length
    · rw [List.getElem?_eq_getElem c, List.getElem?_range (by omega)]
      simp
    · rw [List.getElem?_eq_none (by omega), List.getElem?_eq_none (by rw [List.length_range]; omega)]
      rfl
  rw [← h, List.filter_map]
  rfl
end GL
namespace GL
open PySem PySem.Spec PyProof.Rows L2
section
variable {t T : Tr} {q : List Nat} {b : Addr}
end
section
variable {m : PMd} {k j : Nat} {x : Ltr} {c : Int × Int}
end
section
variable {K : Fg} {B S0 S1 S S' : Hp} {σ : L2.St} {H H' : Hp} {F : Nat → List Addr} {G G' G1 : List Sl} {te : TE} {t : TA} {X : XK}
theorem EvMv.dat {α τ : Type} [Py α] [ToD α] {R : τ → Prop} {x : τ → α} {st : τ → List Sl} (h : EvMv K te G R x st) : EvMv K te G R (fun w => ToD.dat (x w)) st := fun B S0 S σ H F k Q q => h B S0 S σ H F k Q fun w hw v S' H' F' e k' r => q w hw v S' H' F' e k' (ToD.of r)
end
structure HopP (z : Nd) (m : PMd) (one copy : AlP) (k j : Nat) : Prop where
  p1 : one.p = [3, k]
  p2 : copy.p = [3, k, 2, j]
  g1 : ∃ s l, getT z.t [3, k] = some (.nod one.a s l)
  g2 : ∃ s l, getT z.t [3, k, 2, j] = some (.nod copy.a s l)
  kb : k < m.lets.length
  jb : j < (ix m.lets (k : Int)).cop.length
  rl : 0 < m.road.length ∧ m.road.length ≤ 1000
  cb : (ix (ix m.lets (k : Int)).cop (j : Int)).1 < (m.road.length : Int)
end GL
namespace PySem.SeqAt
open AutoSeq1 (wpAny_loadPart')
open MeetsSeq MeetsSeq2 MeetsSeq3 SeqRoads2
section
variable {prog : Program} {w : World}
theorem handS_list_neIn (l b : Addr) (items items2 : Array Value) (n n2 : Nat) (dd dd2 : Option Addr) (sl sl2 : Array (Option Value)) (hsz : items.size ≠ items2.size) :
    MeetsIn prog w (Builtin.«list.__eq__» ⟨[.ref l, .ref b], []⟩)
      (fun A R s => s.heap.get? l = some { cls := .type "list", dict := dd, data := .seq items n, slots := sl } ∧ s.heap.get? b = some { cls := .type "list", dict := dd2, data := .seq items2 n2, slots := sl2 } ∧
        R (.ok (.ret (.bool false))) s) := by
  intro A R s h
  obtain ⟨hp, g, d, tk, os⟩ := s; obtain ⟨hl, hb, h⟩ := h
  have f3 := AutoSeq1.sub_list_list
  have hne : (items.size != items2.size) = true := by simp [hsz]
  wp_walk using wpAny_loadPart' hl, wpAny_loadPart' hb
  exact h
theorem rcP_listsN {A : Around} {s : Shared} {l b : Addr} {items items2 : Array Value} (hl : s.heap.IsList l items) (hb : s.heap.IsList b items2) (hsz : items.size ≠ items2.size) (hu : A.units < cLine)
    (E Q : Value → Shared → Prop) (h : Q (.bool false) s) : wpAny (model prog w) A (richCompare .Eq (.ref l) (.ref b)) Q E s := by
  obtain ⟨⟨cls, dd, data, sl⟩, ho, hc, n, hd⟩ := id hl
  obtain ⟨⟨cls2, dd2, data2, sl2⟩, ho2, hc2, n2, hd2⟩ := id hb
  simp only at hc hd hc2 hd2
  subst hc hd hc2 hd2
  have ta : s.TypeIs (.ref l) "list" := ⟨_, ho, rfl⟩
  have tb : s.TypeIs (.ref b) "list" := ⟨_, ho2, rfl⟩
  exact wpAny_richCompare_same_room (op := .Eq) ta tb F.slot_list_eq (call_meetsIn F.slot_list_eq ta F.entry_list_eq (F.args_list_eq_2 _ _) (handS_list_neIn l b items items2 n n2 dd dd2 sl sl2 hsz)
    ⟨ho, ho2, show Value.bool false ≠ Value.notImplemented ∧ Q (.bool false) s from ⟨(fun x => nomatch x), h⟩⟩) hu
end
end PySem.SeqAt
namespace L2
open PySem PySem.Spec PyProof.Rows
def rEqNil (K : PySem.W.Frag) : R2 := fun x y H Q => ∃ p q xs, x = .ref p ∧ y = .ref q ∧ SqL K H p xs ∧ SqL K H q [] ∧ Q (.bl xs.isEmpty) H
theorem op_eqNil {X : Cx} (hu : X.A.units < cLine) : OpR X (compareOp .Eq) (rEqNil X.K) := by
  intro pins s σ H x y v u Q I rx ry h
  obtain ⟨p, r, xs, rfl, rfl, h1, h2, q⟩ := h
  cases rx
  cases ry
  obtain ⟨its, rv, pl, hz⟩ := I.list h1
  obtain ⟨its2, rv2, pl2, hz2⟩ := I.list h2
  have e2 : its2 = [] := by cases rv2; rfl
  subst e2
  show wpAny (model X.prog X.w) X.A (richCompare .Eq (.ref p) (.ref r)) (EP X pins σ Q) X.xe s
  cases xs with
  | nil =>
    have e1 : its = [] := by cases rv; rfl
    subst e1
    exact PySem.SeqAt.rcP_lists (e := fun _ => true) pl.isList pl2.isList rfl hu (fun j h1 => absurd h1 (by simp)) _ _ ⟨.bl true, H, I, rfl, q⟩
  | cons a xs =>
    cases rv with
    | cons r1 rv => exact PySem.SeqAt.rcP_listsN pl.isList pl2.isList (by simp) hu _ _ ⟨.bl false, H, I, rfl, q⟩
end L2
namespace GL
open PySem PySem.Spec PyProof.Rows L2
end GL
namespace GL
open PySem PySem.Spec PyProof.Rows L2
def aways (R : List Int) (at_ : Int) : List Int := ((rng 0 ((R.length : Int) - 1)).filter fun k => decide (ix R k = ix R at_)).map fun k => k
def onM (R : List Int) (at_ : Int) : Hv × Int := if ix R at_ = lastI R then (⟨none⟩, -1) else (⟨some (ix R (maxL (aways R at_) + 1))⟩, maxL (aways R at_) + 1)
section
variable {R : List Int} {at_ k x : Int}
theorem mem_aways : k ∈ aways R at_ ↔ (0 ≤ k ∧ k < (R.length : Int) - 1) ∧ ix R k = ix R at_ := by
  unfold aways
  rw [List.map_id', List.mem_filter, mem_rng, decide_eq_true_iff]
theorem lastI_at : lastI R = ix R ((R.length : Int) - 1) := rfl
theorem aw_in (h : 0 ≤ at_ ∧ at_ < (R.length : Int)) (ne : ¬ ix R at_ = lastI R) : at_ ∈ aways R at_ := by
  refine mem_aways.mpr ⟨⟨h.1, ?_⟩, rfl⟩
  by_cases c : at_ = (R.length : Int) - 1
  · exact absurd (by rw [c]; rfl) ne
  · omega
theorem aw_ne (h : 0 ≤ at_ ∧ at_ < (R.length : Int)) (ne : ¬ ix R at_ = lastI R) : aways R at_ ≠ [] := fun e => by
  have := aw_in h ne
  rw [e] at this; cases this
theorem aw_max (h : 0 ≤ at_ ∧ at_ < (R.length : Int)) (ne : ¬ ix R at_ = lastI R) : at_ ≤ maxL (aways R at_) ∧ maxL (aways R at_) < (R.length : Int) - 1 :=
  ⟨le_maxL (aw_in h ne), (mem_aways.mp (maxL_mem (aw_ne h ne))).1.2⟩
theorem ix_snocL (h : 0 ≤ k ∧ k < (R.length : Int)) : ix (R ++ [x]) k = ix R k := by
  unfold ix
  rw [List.getD_eq_getElem?_getD, List.getD_eq_getElem?_getD, List.getElem?_append_left (by omega)]
theorem ix_snocR : ix (R ++ [x]) (R.length : Int) = x := by
  unfold ix
  rw [List.getD_eq_getElem?_getD, List.getElem?_append_right (by omega)]
  simp
theorem lastI_snocP : lastI (R ++ [x]) = x := by
  rw [lastI_at, List.length_append, List.length_singleton]
  rw [show (((R.length + 1 : Nat) : Int) - 1) = (R.length : Int) by omega]
  exact ix_snocR
end
theorem ix_setP {α : Type} [Inhabited α] {xs : List α} {n : Int} {v : α} (h : 0 ≤ n ∧ n < (xs.length : Int)) : ix (xs.set n.toNat v) n = v := by
  unfold ix
  rw [List.getD_eq_getElem?_getD, List.getElem?_set_self (by omega)]
  rfl
theorem ix_setQ {α : Type} [Inhabited α] {xs : List α} {n m : Int} {v : α} (h : 0 ≤ n) (h' : 0 ≤ m) (ne : n ≠ m) : ix (xs.set n.toNat v) m = ix xs m := by
  unfold ix
  rw [List.getD_eq_getElem?_getD, List.getD_eq_getElem?_getD, List.getElem?_set_ne (by omega)]
theorem set_ixP {α : Type} [Inhabited α] {xs : List α} {n : Int} {v : α} (h : 0 ≤ n ∧ n < (xs.length : Int)) (e : ix xs n = v) : xs.set n.toNat v = xs := by
  apply List.ext_getElem?
  intro i
  by_cases c : n.toNat = i
  · subst c
    rw [List.getElem?_set_self (by omega), ix_at h.1 h.2, e]
  · rw [List.getElem?_set_ne c]
section
variable {C : Addr} {p : PostM C} {n l x i : Int} {R : List Int}
structure Rd (n : Int) (R : List Int) (p : PostM C) : Prop where
  n2 : 2 ≤ n ∧ n ≤ 1000
  ln : (p.leads.length : Int) = n
  ne : 0 < R.length
  rb : ∀ x ∈ R, 0 ≤ x ∧ x < n
  at_ : p.at_ = lastI R
  ld : ∀ k, 0 ≤ k → k < (R.length : Int) - 1 → ix p.leads (ix R k) = some (ix R (maxL (aways R k) + 1))
theorem Rd.ixb (h : Rd n R p) {k : Int} (b : 0 ≤ k ∧ k < (R.length : Int)) : 0 ≤ ix R k ∧ ix R k < n := h.rb _ (ix_inP b)
theorem Rd.lastb (h : Rd n R p) : 0 ≤ lastI R ∧ lastI R < n := h.ixb (by have := h.ne; omega)
def carryP (p : PostM C) (x : Int) : PostM C := { p with carr := p.carr + 1, leads := p.leads.set p.at_.toNat (some x), at_ := x }
theorem carry_eq (h : Rd n R p) (hx : x ≠ lastI R) : postCarry p x = .inr ((), carryP p x) := by
  unfold postCarry
  rw [if_neg (by rw [h.at_]; exact hx)]
  rfl
theorem Rd.carry (h : Rd n R p) (hb : 0 ≤ x ∧ x < n) : Rd n (R ++ [x]) (carryP p x) := by
  have hl := h.lastb
  have hp := h.ne
  refine ⟨h.n2, by show ((p.leads.set _ _).length : Int) = n; rw [List.length_set]; exact h.ln, by simp, fun y hy => ?_, lastI_snocP.symm, fun k h0 h1 => ?_⟩
  · rcases List.mem_append.mp hy with hy | hy
    · exact h.rb y hy
    · rw [List.mem_singleton.mp hy]; exact hb
  · rw [List.length_append, List.length_singleton] at h1
    have hk : 0 ≤ k ∧ k < (R.length : Int) := ⟨h0, by omega⟩
    rw [ix_snocL hk]
    show ix (p.leads.set p.at_.toNat (some x)) (ix R k) = _
    rw [h.at_]
    by_cases c : ix R k = lastI R
    · have em : (R.length : Int) - 1 = maxL (aways (R ++ [x]) k) := by
        refine maxL_eq (mem_aways.mpr ⟨by rw [List.length_append, List.length_singleton]; omega, ?_⟩) fun y hy => ?_
        · rw [ix_snocL (by omega), ix_snocL hk, c]; rfl
        · have := (mem_aways.mp hy).1
          rw [List.length_append, List.length_singleton] at this
          omega
      rw [c, ix_setP (by rw [h.ln]; exact hl), ← em, show (R.length : Int) - 1 + 1 = (R.length : Int) by omega, ix_snocR]
    · have hm := aw_max hk c
      have em : maxL (aways R k) = maxL (aways (R ++ [x]) k) := by
        refine maxL_eq (mem_aways.mpr ⟨by rw [List.length_append, List.length_singleton]; omega, ?_⟩) fun y hy => le_maxL ?_
        · rw [ix_snocL (by omega), ix_snocL hk]
          exact (mem_aways.mp (maxL_mem (aw_ne hk c))).2
        · obtain ⟨g1, g2⟩ := mem_aways.mp hy
          rw [List.length_append, List.length_singleton] at g1
          rw [ix_snocL (by omega), ix_snocL hk] at g2
          refine mem_aways.mpr ⟨⟨g1.1, ?_⟩, g2⟩
          by_cases e : y = (R.length : Int) - 1
          · exact absurd (by rw [← g2, e]; rfl) c
          · omega
      rw [ix_setQ hl.1 (h.ixb hk).1 (fun e => c e.symm), ← em, ix_snocL (by omega)]
      refine h.ld k h0 ?_
      by_cases e : k = (R.length : Int) - 1
      · exact absurd (by rw [e]; rfl) c
      · omega
theorem PostOk.carry (h : PostOk p) (hb : 0 ≤ x ∧ x < (p.leads.length : Int)) : PostOk (carryP p x) := by
  have hl : (carryP p x).leads.length = p.leads.length := List.length_set ..
  refine ⟨by rw [hl]; exact h.l0, by rw [hl]; exact hb, h.kd, by rw [hl]; exact h.kn, fun y hy k e => ?_, h.oc, h.om, h.oh, h.ow, h.cm, by rw [hl]; exact h.cp, h.du, h.sz⟩
  rw [hl]
  rcases List.mem_or_eq_of_mem_set hy with hy | hy
  · exact h.ld y hy k e
  · rw [hy] at e; cases e; exact hb
def learnP (p : PostM C) (i : Int) : PostM C := { p with known := p.known.set i.toNat p.at_ }
theorem learn_eq : postLearn p i = .inr ((), learnP p i) := rfl
theorem Rd.learn (h : Rd n R p) : Rd n R (learnP p i) := ⟨h.n2, h.ln, h.ne, h.rb, h.at_, h.ld⟩
theorem PostOk.learn (h : PostOk p) : PostOk (learnP p i) := by
  refine ⟨h.l0, h.at_, by show (p.known.set _ _).length = _; rw [List.length_set]; exact h.kd, fun y hy => ?_, h.ld, h.oc, h.om, h.oh, fun y hy => by show 0 ≤ y ∧ y < ((p.known.set _ _).length : Int); rw [List.length_set]; exact h.ow y hy, h.cm, h.cp, h.du, h.sz⟩
  rcases List.mem_or_eq_of_mem_set hy with hy | hy
  · exact h.kn y hy
  · rw [hy]; exact h.at_
def sendP (p : PostM C) (i : Int) : PostM C := { p with owners := p.owners ++ [i], copies := p.copies ++ [[some (ix p.known i)]], many := p.many ++ [[0]], here := p.here ++ [false], due := p.due.set i.toNat (ix p.due i ++ [(p.owners.length : Int)]) }
theorem Rd.send (h : Rd n R p) : Rd n R (sendP p i) := ⟨h.n2, h.ln, h.ne, h.rb, h.at_, h.ld⟩
theorem send_eq : postSend p i = .inr ((p.owners.length : Int), sendP p i) := rfl
theorem PostOk.send (h : PostOk p) (hi : 0 ≤ i ∧ i < (p.known.length : Int)) (s : p.owners.length < 10000) (s' : (ix p.due i).length < 10000) : PostOk (sendP p i) := by
  have ek := h.kn _ (ix_inP hi)
  have el : (sendP p i).owners.length = p.owners.length + 1 := by show (p.owners ++ [i]).length = _; simp
  refine ⟨h.l0, h.at_, by show p.known.length = (p.due.set _ _).length; rw [List.length_set]; exact h.kd, h.kn, h.ld, ?_, ?_, ?_, fun y hy => ?_, fun k => ?_, fun c hc y hy k e => ?_, fun d hd y hy => ?_, by rw [el]; omega, fun c hc => ?_, fun d hd => ?_⟩
  · rw [el]; show _ = (p.copies ++ [_]).length; rw [List.length_append, ← h.oc]; rfl
  · rw [el]; show _ = (p.many ++ [_]).length; rw [List.length_append, ← h.om]; rfl
  · rw [el]; show _ = (p.here ++ [_]).length; rw [List.length_append, ← h.oh]; rfl
  · rcases List.mem_append.mp hy with hy | hy
    · exact h.ow y hy
    · rw [List.mem_singleton.mp hy]; exact hi
  · show ((p.copies ++ [[some (ix p.known i)]]).getD k []).length = ((p.many ++ [[0]]).getD k []).length
    have hc := h.cm k
    have e1 := h.oc
    have e2 := h.om
    rw [List.getD_eq_getElem?_getD, List.getD_eq_getElem?_getD] at hc ⊢
    by_cases c : k < p.owners.length
    · rw [List.getElem?_append_left (by omega), List.getElem?_append_left (by omega)]
      exact hc
    · rw [List.getElem?_append_right (by omega), List.getElem?_append_right (by omega), ← e1, ← e2]
      cases k - p.owners.length with
      | zero => rfl
      | succ m => rfl
  · rcases List.mem_append.mp hc with hc | hc
    · exact h.cp c hc y hy k e
    · rw [List.mem_singleton.mp hc] at hy
      rw [List.mem_singleton.mp hy] at e
      cases e
      exact ek
  · rw [el]
    rcases List.mem_or_eq_of_mem_set hd with hd | hd
    · have := h.du d hd y hy; omega
    · rw [hd] at hy
      rcases List.mem_append.mp hy with hy | hy
      · have := h.du _ (ix_inP (xs := p.due) (by rw [← h.kd]; exact hi)) y hy; omega
      · rw [List.mem_singleton.mp hy]; omega
  · rcases List.mem_append.mp hc with hc | hc
    · exact h.sz.2.1 c hc
    · rw [List.mem_singleton.mp hc]; simp
  · rcases List.mem_or_eq_of_mem_set hd with hd | hd
    · exact h.sz.2.2 d hd
    · rw [hd, List.length_append, List.length_singleton]; omega
def updL (p : PostM C) (l : Int) (c : Option Int) (m : Int) (h : Bool) : PostM C := { p with copies := p.copies.set l.toNat [c], many := p.many.set l.toNat [m], here := p.here.set l.toNat h }
theorem updL_upd {c c' : Option Int} {m m' : Int} {h h' : Bool} : updL (updL p l c m h) l c' m' h' = updL p l c' m' h' := by
  unfold updL
  dsimp only
  rw [List.set_set, List.set_set, List.set_set]
theorem PostOk.upd (h : PostOk p) (hl : 0 ≤ l ∧ l < (p.owners.length : Int)) {c : Option Int} {m : Int} {b : Bool} (hc : ∀ k, c = some k → 0 ≤ k ∧ k < (p.leads.length : Int)) : PostOk (updL p l c m b) := by
  have e1 := h.oc
  have e2 := h.om
  have e3 := h.oh
  refine ⟨h.l0, h.at_, h.kd, h.kn, h.ld, ?_, ?_, ?_, h.ow, fun k => ?_, fun d hd y hy k e => ?_, h.du, h.sz.1, fun d hd => ?_, h.sz.2.2⟩
  · show _ = (p.copies.set _ _).length; rw [List.length_set]; exact e1
  · show _ = (p.many.set _ _).length; rw [List.length_set]; exact e2
  · show _ = (p.here.set _ _).length; rw [List.length_set]; exact e3
  · show ((p.copies.set l.toNat [c]).getD k []).length = ((p.many.set l.toNat [m]).getD k []).length
    have hk := h.cm k
    rw [List.getD_eq_getElem?_getD, List.getD_eq_getElem?_getD] at hk ⊢
    by_cases e : l.toNat = k
    · subst e
      rw [List.getElem?_set_self (by omega), List.getElem?_set_self (by omega)]
      rfl
    · rw [List.getElem?_set_ne e, List.getElem?_set_ne e]
      exact hk
  · rcases List.mem_or_eq_of_mem_set hd with hd | hd
    · exact h.cp d hd y hy k e
    · rw [hd] at hy
      rw [List.mem_singleton.mp hy] at e
      exact hc k e
  · rcases List.mem_or_eq_of_mem_set hd with hd | hd
    · exact h.sz.2.1 d hd
    · rw [hd]; simp
theorem Rd.upd (h : Rd n R p) {c : Option Int} {m : Int} {b : Bool} : Rd n R (updL p l c m b) := ⟨h.n2, h.ln, h.ne, h.rb, h.at_, h.ld⟩
def LSt (R : List Int) (s at_ : Int) (c : Option Int) (m : Int) (h : Bool) : Prop := ((0 ≤ at_ ∧ at_ < (R.length : Int)) ∧ c = some (ix R at_) ∧ m ≤ at_ - s) ∨ (at_ = -1 ∧ h = true ∧ m ≤ (R.length : Int) - 1 - s)
theorem LSt.carry {s at_ m : Int} {c : Option Int} {h : Bool} (k : LSt R s at_ c m h) : LSt (R ++ [x]) s at_ c m h := by
  unfold LSt at k ⊢
  rw [List.length_append, List.length_singleton]
  rcases k with ⟨h1, h2, h3⟩ | ⟨h1, h2, h3⟩
  · exact .inl ⟨by omega, by rw [ix_snocL h1]; exact h2, h3⟩
  · exact .inr ⟨h1, h2, by omega⟩
structure One (p : PostM C) (l : Int) (c : Option Int) (m : Int) (h : Bool) : Prop where
  lb : 0 ≤ l ∧ l < (p.owners.length : Int)
  cc : ix p.copies l = [c]
  mm : ix p.many l = [m]
  hh : ix p.here l = h
theorem One.upd {c c' : Option Int} {m m' : Int} {h h' : Bool} (o : One p l c m h) (ok : PostOk p) : One (updL p l c' m' h') l c' m' h' :=
  ⟨o.lb, ix_setP (by rw [← ok.oc]; exact o.lb), ix_setP (by rw [← ok.om]; exact o.lb), ix_setP (by rw [← ok.oh]; exact o.lb)⟩
theorem One.self {c : Option Int} {m : Int} {h : Bool} (o : One p l c m h) (ok : PostOk p) : updL p l c m h = p := by
  unfold updL
  rw [set_ixP (by rw [← ok.oc]; exact o.lb) o.cc, set_ixP (by rw [← ok.om]; exact o.lb) o.mm, set_ixP (by rw [← ok.oh]; exact o.lb) o.hh]
theorem hop_led {s at_ m : Int} {c : Option Int} {h : Bool} (ok : PostOk p) (rd : Rd n R p) (o : One p l c m h) (k : LSt R s at_ c m h) (h0 : 0 ≤ at_) :
    ∃ c' m' h', postHop p l 0 = .inr ((onM R at_).1.dat, updL p l c' m' h') ∧ (∀ k, c' = some k → 0 ≤ k ∧ k < (p.leads.length : Int)) ∧ (∀ s, LSt R s at_ c m h → LSt R s (onM R at_).2 c' m' h') ∧ ((onM R at_).2 = -1 ∨ at_ + 1 ≤ (onM R at_).2) := by
  have k2 : (0 ≤ at_ ∧ at_ < (R.length : Int)) ∧ c = some (ix R at_) := by
    rcases k with ⟨h1, h2, _⟩ | ⟨h1, _⟩
    · exact ⟨h1, h2⟩
    · omega
  obtain ⟨b, ec⟩ := k2
  have hl : (0 ≤ l ∧ l < (p.owners.length : Int)) ∧ 0 ≤ (0 : Int) ∧ (0 : Int) < ((ix p.copies l).length : Int) := ⟨o.lb, by rw [o.cc]; simp⟩
  have hc : ix (ix p.copies l) 0 = some (ix R at_) := by rw [o.cc, ← ec]; rfl
  have hb := rd.ixb b
  unfold onM
  by_cases e : ix R at_ = lastI R
  · rw [if_pos e]
    refine ⟨none, m, true, ?_, (fun k e => by cases e), fun s k => ?_, .inl rfl⟩
    · rw [hop_here hl hc (by rw [rd.at_]; exact e), o.cc]
      show Sum.inr (thereD, _) = Sum.inr (thereD, _)
      unfold updL
      rw [set_ixP (xs := p.many) (by rw [← ok.om]; exact o.lb) o.mm]
      rfl
    · rcases k with ⟨h1, h2, h3⟩ | ⟨h1, _⟩
      · exact .inr ⟨rfl, rfl, by omega⟩
      · omega
  · rw [if_neg e]
    have hm := aw_max b e
    have e2 : at_ < (R.length : Int) - 1 := by omega
    refine ⟨some (ix R (maxL (aways R at_) + 1)), m + 1, h, ?_, fun k e => ?_, fun s k => ?_, .inr (by dsimp only; omega)⟩
    · rw [hop_on hl hc (by rw [rd.at_]; exact e), rd.ld at_ h0 e2, o.cc, o.mm]
      unfold updL
      rw [set_ixP (xs := p.here) (by rw [← ok.oh]; exact o.lb) o.hh]
      rfl
    · cases e
      rw [rd.ln]
      exact rd.ixb (by omega)
    · rcases k with ⟨h1, h2, h3⟩ | ⟨h1, _⟩
      · exact .inl ⟨by dsimp only; omega, rfl, by dsimp only; omega⟩
      · omega
def LedP (R : List Int) (p : PostM C) (l at_ : Int) : Prop := R.length ≤ 1000 ∧ PostOk p ∧ ∃ n c m h s, Rd n R p ∧ One p l c m h ∧ LSt R s at_ c m h
def LedR (R : List Int) (p : PostM C) (l at_ most at' : Int) (p' : PostM C) : Prop := ∃ c m h, p' = updL p l c m h ∧ PostOk p' ∧ (∀ c0 m0 h0, One p l c0 m0 h0 → ∀ s, LSt R s at_ c0 m0 h0 → LSt R s at' c m h) ∧ (at' ≠ -1 → at_ + most ≤ at') ∧ (at_ = -1 → at' = -1)
def LedI (R : List Int) (p : PostM C) (l at0 most0 : Int) (q : PostM C) (at_ most : Int) : Prop := ∃ n c m h, q = updL p l c m h ∧ PostOk q ∧ Rd n R q ∧ One q l c m h ∧ (∃ s, LSt R s at_ c m h) ∧ (∀ c0 m0 h0, One p l c0 m0 h0 → ∀ s, LSt R s at0 c0 m0 h0 → LSt R s at_ c m h) ∧ (at_ ≠ -1 → at0 + most0 ≤ at_ + most) ∧ (at0 = -1 → at_ = -1)
theorem LedI.start {at_ most : Int} (h : LedP R p l at_) : LedI R p l at_ most p at_ most := by
  obtain ⟨_, ok, n, c, m, b, s, rd, o, k⟩ := h
  refine ⟨n, c, m, b, (o.self ok).symm, ok, rd, o, ⟨s, k⟩, fun c0 m0 h0 o' s' k' => ?_, fun _ => Int.le_refl _, id⟩
  have e1 := o.cc.symm.trans o'.cc
  have e2 := o.mm.symm.trans o'.mm
  have e3 := o.hh.symm.trans o'.hh
  cases e1; cases e2; cases e3
  exact k'
theorem LedI.step {at0 most0 at_ most : Int} {q : PostM C} (h : LedI R p l at0 most0 q at_ most) (h0 : 0 ≤ at_) : ∃ q', postHop q l 0 = .inr ((onM R at_).1.dat, q') ∧ LedI R p l at0 most0 q' (onM R at_).2 (most - 1) := by
  obtain ⟨n, c, m, b, e, ok, rd, o, ⟨s, k⟩, hs, hm, hz⟩ := h
  obtain ⟨c', m', h', e1, e2, e3, e4⟩ := hop_led ok rd o k h0
  refine ⟨_, e1, n, c', m', h', by rw [e, updL_upd], ok.upd o.lb e2, rd.upd, o.upd ok, ⟨s, e3 s k⟩, fun c0 m0 h0 o' s' k' => e3 s' (hs c0 m0 h0 o' s' k'), fun ne => ?_, fun e => by have := hz e; omega⟩
  have := hm (by omega)
  rcases e4 with e4 | e4
  · exact absurd e4 ne
  · omega
theorem LedI.done {at0 most0 at_ most : Int} {q : PostM C} (h : LedI R p l at0 most0 q at_ most) (h0 : ¬ (0 < most ∧ 0 ≤ at_)) : LedR R p l at0 most0 at_ q := by
  obtain ⟨n, c, m, b, e, ok, rd, o, ⟨s, k⟩, hs, hm, hz⟩ := h
  refine ⟨c, m, b, e, ok, hs, fun ne => ?_, hz⟩
  have := hm ne
  rcases k with ⟨h1, _⟩ | ⟨h1, _⟩
  · omega
  · exact absurd h1 ne
theorem LedR.there {at_ most at' : Int} {q : PostM C} (h : LedR R p l at_ most at' q) {c0 m0 h0 s} (o : One p l c0 m0 h0) (k : LSt R s at_ c0 m0 h0) (hm : (R.length : Int) ≤ most) : at' = -1 := by
  obtain ⟨c, m, b, e, ok, hs, hd, hz⟩ := h
  by_cases e : at' = -1
  · exact e
  · have := hd e
    rcases k with ⟨h2, h3⟩ | ⟨h2, h3⟩
    · rcases hs c0 m0 h0 o s (.inl ⟨h2, h3⟩) with ⟨h1, _⟩ | ⟨h1, _⟩
      · omega
      · exact h1
    · exact hz h2
end
end GL
namespace GL
open PySem PySem.Spec PyProof.Rows L2
structure TakeP (m : PMd) (i : Int) : Prop where
  i0 : 0 ≤ i ∧ i < (m.taken.length : Int)
  ll : m.lets.length ≤ 100000
  at_ : 0 ≤ ix m.taken i ∧ ix m.taken i ≤ ((mineM m i).length : Int)
theorem mine_in {m : PMd} {i k : Int} (h : k ∈ mineM m i) : 0 ≤ k ∧ k < (m.lets.length : Int) := by
  unfold mineM at h
  exact mem_rng.mp (List.mem_filter.mp h).1
theorem awayM_eq {R : List Int} {a : Int} : awayM R (ix R a) = aways R a := rfl
theorem away_in {R : List Int} {a : Int} (h : 0 ≤ a ∧ a < (R.length : Int)) (ne : ¬ ix R a = lastI R) : awayM R (ix R a) ≠ [] ∧ 0 ≤ maxL (awayM R (ix R a)) ∧ maxL (awayM R (ix R a)) + 1 < (R.length : Int) := by
  have h1 := aw_max h ne
  rw [awayM_eq]
  exact ⟨aw_ne h ne, by omega, by omega⟩
structure ModOk (m : PMd) : Prop where
  rl : 0 < m.road.length ∧ m.road.length ≤ 1000
  kn : ∀ x ∈ m.known, 0 ≤ x ∧ x < (m.road.length : Int)
  ll : m.lets.length ≤ 1000
  tk : m.taken.length = m.known.length
  lt : ∀ x ∈ m.lets, (0 ≤ x.who ∧ x.who < (m.known.length : Int)) ∧ 0 < x.cop.length ∧ x.cop.length ≤ 1000 ∧ ∀ c ∈ x.cop, c.1 < (m.road.length : Int)
  at_ : ∀ i, 0 ≤ i → i < (m.taken.length : Int) → 0 ≤ ix m.taken i ∧ ix m.taken i ≤ ((mineM m i).length : Int)
def strD (s : String) : Dat := .str (Str.ofString s)
def callD (m : PMd) (w : Wd) : Dat × PMd :=
  if w.w = Str.ofString "carry" then if ix w.n 0 = lastI m.road then (strD "nohouse", m) else (.non, { m with road := m.road ++ [ix w.n 0] })
  else if w.w = Str.ofString "learn" then (.non, { m with known := m.known.set (ix w.n 0).toNat ((m.road.length : Int) - 1) })
  else if w.w = Str.ofString "send" then (.int (m.lets.length : Int), { m with lets := m.lets ++ [⟨ix w.n 0, false, [(ix m.known (ix w.n 0), 0)]⟩] })
  else if w.w = Str.ofString "take" then (ToD.dat (takeD m (ix w.n 0)).1, (takeD m (ix w.n 0)).2)
  else if ¬ (0 ≤ ix w.n 0 ∧ ix w.n 0 < (m.lets.length : Int)) then (strD "noletter", m)
  else if w.w = Str.ofString "double" then (.int ((ix m.lets (ix w.n 0)).cop.length : Int), { m with lets := m.lets.set (ix w.n 0).toNat { ix m.lets (ix w.n 0) with cop := (ix m.lets (ix w.n 0)).cop ++ [(ix m.known (ix m.lets (ix w.n 0)).who, 0)] } })
  else if ¬ (0 ≤ ix w.n 1 ∧ ix w.n 1 < ((ix m.lets (ix w.n 0)).cop.length : Int)) then (strD "noletter", m)
  else if w.w = Str.ofString "hops" then (.int (ix (ix m.lets (ix w.n 0)).cop (ix w.n 1)).2, m)
  else hopD m (ix w.n 0) (ix w.n 1)
structure CallP (m : PMd) (w : Wd) : Prop where
  ok : ModOk m
  n1 : 0 < w.n.length
  n2 : w.w ≠ Str.ofString "carry" → w.w ≠ Str.ofString "learn" → w.w ≠ Str.ofString "send" → w.w ≠ Str.ofString "take" → w.w ≠ Str.ofString "double" → 1 < w.n.length
  i : w.w = Str.ofString "learn" ∨ w.w = Str.ofString "send" ∨ w.w = Str.ofString "take" → 0 ≤ ix w.n 0 ∧ ix w.n 0 < (m.known.length : Int)
theorem CallP.take {m : PMd} {w : Wd} (h : CallP m w) (e : w.w = Str.ofString "take") : TakeP m (ix w.n 0) := by
  have hi := h.i (.inr (.inr e))
  rw [← h.ok.tk] at hi
  exact ⟨hi, by have := h.ok.ll; omega, h.ok.at_ _ hi.1 hi.2⟩
section
variable {C : Addr}
def mapD {β : Type} [Py β] [ToD β] (r : XC ⊕ (β × PostM C)) : XC ⊕ (Dat × PostM C) := match r with
  | .inl e => .inl e
  | .inr (y, q) => .inr (ToD.dat y, q)
def askR (p : PostM C) (w : Wd) : XC ⊕ (Dat × PostM C) :=
  if w.w = Str.ofString "carry" then mapD (postCarry p (ix w.n 0))
  else if w.w = Str.ofString "learn" then mapD (postLearn p (ix w.n 0))
  else if w.w = Str.ofString "send" then mapD (postSend p (ix w.n 0))
  else if w.w = Str.ofString "take" then mapD (postTake p (ix w.n 0))
  else if w.w = Str.ofString "double" then mapD (postDouble p (ix w.n 0))
  else if w.w = Str.ofString "hop" then mapD (postHop p (ix w.n 0) (ix w.n 1))
  else mapD (postHops p (ix w.n 0) (ix w.n 1))
def askD (p : PostM C) (w : Wd) : Dat × PostM C := match askR p w with
  | .inr r => r
  | .inl .noHouse => (strD "nohouse", p)
  | .inl .noLetter => (strD "noletter", p)
  | .inl _ => (strD "odd", p)
structure AskP (p : PostM C) (w : Wd) : Prop where
  ok : PostOk p
  n1 : 0 < w.n.length
  n2 : w.w ≠ Str.ofString "carry" → w.w ≠ Str.ofString "learn" → w.w ≠ Str.ofString "send" → w.w ≠ Str.ofString "take" → w.w ≠ Str.ofString "double" → 1 < w.n.length
  i : w.w = Str.ofString "learn" ∨ w.w = Str.ofString "send" ∨ w.w = Str.ofString "take" → 0 ≤ ix w.n 0 ∧ ix w.n 0 < (p.known.length : Int)
theorem mapD_r {β : Type} [Py β] [ToD β] {r : XC ⊕ (β × PostM C)} {y : β} {q : PostM C} (h : r = .inr (y, q)) : mapD r = .inr (ToD.dat y, q) := by rw [h]; rfl
theorem mapD_l {β : Type} [Py β] [ToD β] {r : XC ⊕ (β × PostM C)} {e : XC} (h : r = .inl e) : mapD r = .inl e := by rw [h]; rfl
end
section
variable {K : Fg} {B S0 : Hp} {G : List Sl} {P : L2.St → Hp → Prop}
end
structure StartOk (y : T3 Int Int Int) : Prop where
  a : 2 ≤ y.a ∧ y.a ≤ 6
  b : 0 ≤ y.b ∧ y.b < y.a
  c : 1 ≤ y.c ∧ y.c ≤ 4
theorem ix135 {d : Int} (h : 0 ≤ d ∧ d < 3) : 1 ≤ ix ([1, 3, 5] : List Int) d ∧ ix ([1, 3, 5] : List Int) d ≤ 5 := by
  have : d = 0 ∨ d = 1 ∨ d = 2 := by omega
  rcases this with rfl | rfl | rfl <;> decide
theorem start_s {z : Spr} : 0 < ix ([1, 3, 5] : List Int) (lawCup z 3).1 ∧ ix ([1, 3, 5] : List Int) (lawCup z 3).1 < 1073741824 := by
  have := ix135 (cup_bd z (m := 3) (by decide)); omega
theorem start_h {z z' : Spr} {h : Int} (e : h = 2 + (lawCup z' (ix [1, 3, 5] (lawCup z 3).1)).1) : 2 ≤ h ∧ h ≤ 6 := by
  have h1 := ix135 (cup_bd z (m := 3) (by decide))
  have h2 := cup_bd z' (m := ix [1, 3, 5] (lawCup z 3).1) (by omega)
  omega
theorem start_ok {h : Int} {z z' : Spr} (hh : 2 ≤ h ∧ h ≤ 6) : StartOk (T3.mk h (lawCup z h).1 (1 + (lawCup z' 4).1)) := by
  have h1 := cup_bd z (m := h) (by omega)
  have h2 := cup_bd z' (m := 4) (by decide)
  exact ⟨hh, h1, by dsimp only; omega⟩
def GoOk (m : PMd) (gl : List (Int × Int)) : Prop := ∀ v ∈ gl, (0 ≤ v.1 ∧ v.1 < (m.lets.length : Int)) ∧ (0 ≤ v.2 ∧ v.2 < ((ix m.lets v.1).cop.length : Int)) ∧ 0 ≤ (ix (ix m.lets v.1).cop v.2).1
structure DrawP (m : PMd) : Prop where
  kl : 0 < m.known.length ∧ m.known.length ≤ 1000
  hl : 2 ≤ m.houses ∧ m.houses ≤ 1000
  ll : m.lets.length ≤ 1000
  cl : ∀ x ∈ m.lets, x.cop.length ≤ 1000
  c0 : ∀ x ∈ m.lets, 0 < x.cop.length
def DrawnOk (m : PMd) (w : Wd) : Prop :=
  (w.w = Str.ofString "carry" ∧ w.n.length = 1 ∧ 0 ≤ ix w.n 0 ∧ ix w.n 0 < m.houses) ∨
  ((w.w = Str.ofString "send" ∨ w.w = Str.ofString "learn" ∨ w.w = Str.ofString "take") ∧ w.n.length = 1 ∧ 0 ≤ ix w.n 0 ∧ ix w.n 0 < (m.known.length : Int)) ∨
  (w.w = Str.ofString "double" ∧ w.n.length = 1 ∧ 0 ≤ ix w.n 0 ∧ ix w.n 0 < (m.lets.length : Int)) ∨
  (w.w = Str.ofString "hop" ∧ w.n.length = 2 ∧ (0 ≤ ix w.n 0 ∧ ix w.n 0 < (m.lets.length : Int)) ∧ (0 ≤ ix w.n 1 ∧ ix w.n 1 < ((ix m.lets (ix w.n 0)).cop.length : Int)) ∧ 0 ≤ (ix (ix m.lets (ix w.n 0)).cop (ix w.n 1)).1)
section
variable {K : Fg} {G G1 G2 : List Sl} {ta tb : TE}
end
def wholeD (d : Dat) : Bool := d.isI && !d.isBl
end GL
namespace GL
open PySem PySem.Spec PyProof.Rows L2
theorem hv_pl (x : Hv) : DPl 2 x.dat := by
  have l1 : ∀ s ∈ ["there", "on"], (PyData.str (Str.ofString s)).canLay0 = true := by decide +kernel
  rcases x with ⟨_ | h⟩
  · exact .tup fun y hy => by rw [List.mem_singleton.mp hy]; exact .str (l1 _ (by simp))
  · refine .tup fun y hy => ?_
    simp only [List.mem_cons, List.mem_nil_iff, or_false] at hy
    rcases hy with rfl | rfl
    · exact .str (l1 _ (by simp))
    · exact .int
theorem mod_ne {a d n : Int} (h : 0 ≤ a ∧ a < n) (hd : 1 ≤ d ∧ d < n) : (a + d) % n ≠ a ∧ 0 ≤ (a + d) % n ∧ (a + d) % n < n := by
  refine ⟨fun e => ?_, Int.emod_nonneg _ (by omega), Int.emod_lt_of_pos _ (by omega)⟩
  by_cases c : a + d < n
  · rw [Int.emod_eq_of_lt (by omega) c] at e; omega
  · rw [show a + d = (a + d - n) + n by omega, Int.add_emod_right, Int.emod_eq_of_lt (by omega) (by omega)] at e
    omega
section
variable {C : Addr} {p q : PostM C} {n s x at_ i : Int} {R : List Int}
structure AI (n : Int) (R : List Int) (p : PostM C) : Prop where
  ok : PostOk p
  rd : Rd n R p
  r0 : ix R 0 = 0
  kn : p.known = [0, 0]
  ow : p.owners = [0]
  co : p.copies = [[some 0]]
  ma : p.many = [[0]]
  he : p.here = [false]
  du : p.due = [[0], []]
theorem new_ok (h : 2 ≤ n ∧ n ≤ 1000) : PostOk (postNew n 0 2 : PostM C) := by
  have l0 : (postNew n 0 2 : PostM C).leads.length = n.toNat := List.length_replicate ..
  refine ⟨by rw [l0]; omega, by rw [l0]; show 0 ≤ (0 : Int) ∧ (0 : Int) < _; omega, rfl, fun y hy => ?_, fun y hy k e => ?_, rfl, rfl, rfl, (fun y hy => by cases hy), fun k => rfl, (fun c hc => by cases hc), fun d hd y hy => ?_, (by show 0 ≤ 10000; decide), (fun c hc => by cases hc), fun d hd => ?_⟩
  · have : y = 0 := by have := (List.mem_replicate.mp hy).2; exact this
    rw [this, l0]; omega
  · rw [(List.mem_replicate.mp hy).2] at e; cases e
  · rw [(List.mem_replicate.mp hd).2] at hy; cases hy
  · rw [(List.mem_replicate.mp hd).2]; exact Nat.zero_le _
theorem AI.start (h : 2 ≤ n ∧ n ≤ 1000) : AI n [0] (sendP (postNew n 0 2 : PostM C) 0) := by
  refine ⟨(new_ok h).send (by show 0 ≤ (0 : Int) ∧ (0 : Int) < ((List.replicate 2 (0 : Int)).length : Int); decide) (by show ([] : List Int).length < 10000; decide) (by show (ix (List.replicate 2 ([] : List Int)) 0).length < 10000; decide), ⟨h, ?_, by decide, fun x hx => by rw [List.mem_singleton.mp hx]; omega, rfl, fun k h0 h1 => ?_⟩, rfl, rfl, rfl, rfl, rfl, rfl, rfl⟩
  · show ((List.replicate n.toNat none).length : Int) = n
    rw [List.length_replicate]; omega
  · simp only [List.length_singleton] at h1; omega
theorem AI.carry (h : AI n R p) (hb : 0 ≤ x ∧ x < n) : AI n (R ++ [x]) (carryP p x) :=
  ⟨h.ok.carry (by rw [h.rd.ln]; exact hb), h.rd.carry hb, by rw [ix_snocL (by have := h.rd.ne; omega)]; exact h.r0, h.kn, h.ow, h.co, h.ma, h.he, h.du⟩
theorem AI.one (h : AI n R p) : One p 0 (some 0) 0 false := ⟨by rw [h.ow]; decide, by rw [h.co]; rfl, by rw [h.ma]; rfl, by rw [h.he]; rfl⟩
theorem AI.st (h : AI n R p) : LSt R 0 0 (some 0) 0 false := .inl ⟨by have := h.rd.ne; omega, by rw [h.r0], by omega⟩
structure CI (n : Int) (R : List Int) (p : PostM C) : Prop where
  ok : PostOk p
  rd : Rd n R p
  kn : p.known = [0, 0]
  ow : p.owners = [0]
  co : ∃ c, p.copies = [[c]]
  ma : ∃ m, p.many = [[m]]
  he : p.here = [true]
  du : p.due = [[0], []]
structure DI (n : Int) (R : List Int) (p : PostM C) : Prop where
  ok : PostOk p
  rd : Rd n R p
  k1 : p.known.length = 2 ∧ ix p.known 1 = p.at_
  ow : p.owners = [0, 1]
  co : ∃ c, p.copies = [[c], [none]]
  ma : ∃ m m', p.many = [[m], [m']]
  he : p.here = [true, true]
  du : p.due = [[0], [1]]
theorem CI.send_ok (h : CI n R p) : PostOk (sendP (learnP p 1) 1) := h.ok.learn.send (by show 0 ≤ (1 : Int) ∧ (1 : Int) < ((p.known.set _ _).length : Int); rw [List.length_set, h.kn]; decide) (by show p.owners.length < _; rw [h.ow]; decide) (by show (ix p.due 1).length < _; rw [h.du]; decide)
theorem CI.hop (h : CI n R p) : ∃ q, postHop (sendP (learnP p 1) 1) ((learnP p 1).owners.length : Int) 0 = .inr (thereD, q) ∧ DI n R q := by
  obtain ⟨c, hc⟩ := h.co
  obtain ⟨m, hm⟩ := h.ma
  have so := h.send_ok
  have ek : (learnP p 1).known = [0, p.at_] := by show p.known.set _ _ = _; rw [h.kn]; rfl
  have el : ((learnP p 1).owners.length : Int) = 1 := by show (p.owners.length : Int) = 1; rw [h.ow]; rfl
  have e1 : (sendP (learnP p 1) 1).owners = [0, 1] := by show p.owners ++ _ = _; rw [h.ow]; rfl
  have e2 : (sendP (learnP p 1) 1).copies = [[c], [some p.at_]] := by
    show p.copies ++ [[some (ix (learnP p 1).known 1)]] = _
    rw [hc, ek]; rfl
  have e3 : (sendP (learnP p 1) 1).many = [[m], [0]] := by show p.many ++ _ = _; rw [hm]; rfl
  have e4 : (sendP (learnP p 1) 1).here = [true, false] := by show p.here ++ _ = _; rw [h.he]; rfl
  have e5 : (sendP (learnP p 1) 1).due = [[0], [1]] := by
    show p.due.set _ (ix p.due 1 ++ [(p.owners.length : Int)]) = _
    rw [h.du, h.ow]; rfl
  have o : One (sendP (learnP p 1) 1) 1 (some p.at_) 0 false := ⟨by rw [e1]; decide, by rw [e2]; rfl, by rw [e3]; rfl, by rw [e4]; rfl⟩
  have hl : (0 ≤ (1 : Int) ∧ (1 : Int) < ((sendP (learnP p 1) 1).owners.length : Int)) ∧ 0 ≤ (0 : Int) ∧ (0 : Int) < ((ix (sendP (learnP p 1) 1).copies 1).length : Int) := ⟨o.lb, by rw [o.cc]; show (0 : Int) ≤ 0 ∧ (0 : Int) < ((1 : Nat) : Int); decide⟩
  have hh := hop_here hl (k := p.at_) (by rw [o.cc]; rfl) rfl
  have eu : ({ sendP (learnP p 1) 1 with copies := (sendP (learnP p 1) 1).copies.set (1 : Int).toNat ((ix (sendP (learnP p 1) 1).copies 1).set (0 : Int).toNat none), here := (sendP (learnP p 1) 1).here.set (1 : Int).toNat true } : PostM C) = updL (sendP (learnP p 1) 1) 1 none 0 true := by
    unfold updL
    rw [set_ixP (xs := (sendP (learnP p 1) 1).many) (by rw [e3]; show 0 ≤ (1 : Int) ∧ (1 : Int) < ((2 : Nat) : Int); decide) o.mm, o.cc]
    rfl
  refine ⟨_, by rw [el]; exact hh, ?_⟩
  rw [eu]
  refine ⟨so.upd o.lb (fun k e => by cases e), h.rd.learn.send.upd, ⟨?_, ?_⟩, e1, ⟨c, ?_⟩, ⟨m, 0, ?_⟩, ?_, e5⟩
  · show (learnP p 1).known.length = 2; rw [ek]; rfl
  · show ix (learnP p 1).known 1 = p.at_; rw [ek]; rfl
  · show (sendP (learnP p 1) 1).copies.set _ _ = _; rw [e2]; rfl
  · show (sendP (learnP p 1) 1).many.set _ _ = _; rw [e3]; rfl
  · show (sendP (learnP p 1) 1).here.set _ _ = _; rw [e4]; rfl
structure BI (n s : Int) (R : List Int) (p : PostM C) (at_ : Int) : Prop where
  ok : PostOk p
  rd : Rd n R p
  kn : p.known.length = 2
  ow : p.owners = [0, 1, 1]
  st : ∃ c m h c0 m0 m1, p.copies = [[c0], [none], [c]] ∧ p.many = [[m0], [m1], [m]] ∧ p.here = [true, true, h] ∧ LSt R s at_ c m h
  du : p.due = [[0], [1, 2]]
theorem BI.start (h : DI n R p) : (p.owners.length : Int) = 2 ∧ BI n ((R.length : Int) - 1) R (sendP p 1) ((R.length : Int) - 1) := by
  obtain ⟨c, hc⟩ := h.co
  obtain ⟨m, m', hm⟩ := h.ma
  refine ⟨by rw [h.ow]; rfl, h.ok.send (by rw [h.k1.1]; decide) (by rw [h.ow]; decide) (by rw [h.du]; decide), h.rd.send, h.k1.1, by show p.owners ++ _ = _; rw [h.ow]; rfl, ⟨some (ix p.known 1), 0, false, c, m, m', by show p.copies ++ _ = _; rw [hc]; rfl, by show p.many ++ _ = _; rw [hm]; rfl, by show p.here ++ _ = _; rw [h.he]; rfl, .inl ⟨by have := h.rd.ne; omega, by rw [h.k1.2, h.rd.at_]; rfl, by omega⟩⟩, ?_⟩
  show p.due.set _ (ix p.due 1 ++ [(p.owners.length : Int)]) = _
  rw [h.du, h.ow]; rfl
theorem BI.carry (h : BI n s R p at_) (hb : 0 ≤ x ∧ x < n) : BI n s (R ++ [x]) (carryP p x) at_ := by
  obtain ⟨c, m, b, c0, m0, m1, h1, h2, h3, h4⟩ := h.st
  exact ⟨h.ok.carry (by rw [h.rd.ln]; exact hb), h.rd.carry hb, h.kn, h.ow, ⟨c, m, b, c0, m0, m1, h1, h2, h3, h4.carry⟩, h.du⟩
theorem BI.next (h : BI n s R p at_) {most at' : Int} (k : LedR R p 2 at_ most at' q) : BI n s R q at' := by
  obtain ⟨c, m, b, c0, m0, m1, h1, h2, h3, h4⟩ := h.st
  have o : One p 2 c m b := ⟨by rw [h.ow]; decide, by rw [h1]; rfl, by rw [h2]; rfl, by rw [h3]; rfl⟩
  obtain ⟨c', m', b', e1, ok, hs, _⟩ := k
  have hk := hs _ _ _ o s h4
  subst e1
  exact ⟨ok, h.rd.upd, h.kn, h.ow, ⟨c', m', b', c0, m0, m1, by show p.copies.set _ _ = _; rw [h1]; rfl, by show p.many.set _ _ = _; rw [h2]; rfl, by show p.here.set _ _ = _; rw [h3]; rfl, hk⟩, h.du⟩
structure TI (p : PostM C) : Prop where
  ok : PostOk p
  kn : p.known.length = 2
  he : p.here = [true, true, true]
theorem BI.done (h : BI n s R p at_) {at' : Int} (k : LedR R p 2 at_ (R.length : Int) at' q) : at' = -1 ∧ TI q ∧ q.due = [[0], [1, 2]] ∧ postHops q 2 0 = .inr (ix (ix q.many 2) 0, q) ∧ ix (ix q.many 2) 0 ≤ (R.length : Int) - 1 - s := by
  have hn := h.next k
  obtain ⟨c, m, b, c0, m0, m1, h1, h2, h3, h4⟩ := h.st
  have o : One p 2 c m b := ⟨by rw [h.ow]; decide, by rw [h1]; rfl, by rw [h2]; rfl, by rw [h3]; rfl⟩
  have e := k.there o h4 (Int.le_refl _)
  obtain ⟨c, m, b, c0, m0, m1, h1, h2, h3, h4⟩ := hn.st
  rw [e] at h4
  rcases h4 with ⟨g1, _⟩ | ⟨_, g2, g3⟩
  · omega
  subst g2
  refine ⟨e, ⟨hn.ok, hn.kn, h3⟩, hn.du, ?_, by rw [h2]; exact g3⟩
  unfold postHops
  rw [hn.ow, h1, h2]
  exact if_pos ⟨by decide, by show (0 : Int) ≤ 0 ∧ (0 : Int) < ((1 : Nat) : Int); decide⟩
def takeP (p : PostM C) (i : Int) : PostM C := { p with due := p.due.set i.toNat ((ix p.due i).eraseIdx 0) }
theorem take_some {r : List Int} (hd : ix p.due i = x :: r) (hh : ix p.here x = true) : postTake p i = .inr (some x, takeP p i) := by
  unfold postTake
  rw [if_neg (by rw [hd]; rintro (e | e); cases e; rw [show ix (x :: r) 0 = x from rfl, hh] at e; cases e)]
  unfold takeP
  rw [hd]
  rfl
theorem take_none (hd : ix p.due i = []) : postTake p i = .inr (none, p) := by
  unfold postTake
  rw [if_pos (.inl hd)]
theorem TI.take (h : TI p) (hi : 0 ≤ i ∧ i < (p.due.length : Int)) : TI (takeP p i) := by
  refine ⟨⟨h.ok.l0, h.ok.at_, by show _ = (p.due.set _ _).length; rw [List.length_set]; exact h.ok.kd, h.ok.kn, h.ok.ld, h.ok.oc, h.ok.om, h.ok.oh, h.ok.ow, h.ok.cm, h.ok.cp, fun d hd y hy => ?_, h.ok.sz.1, h.ok.sz.2.1, fun d hd => ?_⟩, h.kn, h.he⟩
  · rcases List.mem_or_eq_of_mem_set hd with hd | hd
    · exact h.ok.du d hd y hy
    · rw [hd] at hy
      exact h.ok.du _ (ix_inP hi) y (List.mem_of_mem_eraseIdx hy)
  · rcases List.mem_or_eq_of_mem_set hd with hd | hd
    · exact h.ok.sz.2.2 d hd
    · rw [hd]
      exact Nat.le_trans (List.length_eraseIdx_le ..) (h.ok.sz.2.2 _ (ix_inP hi))
theorem takes (h : TI p) (d : p.due = [[0], [1, 2]]) : ∃ p1 p2 p3 : PostM C, postTake p 1 = .inr (some 1, p1) ∧ postTake p1 1 = .inr (some 2, p2) ∧ postTake p2 1 = .inr (none, p2) ∧ postTake p2 0 = .inr (some 0, p3) ∧ postTake p3 0 = .inr (none, p3) ∧ TI p1 ∧ TI p2 ∧ TI p3 := by
  have d1 : (takeP p 1).due = [[0], [2]] := by show p.due.set _ ((ix p.due 1).eraseIdx 0) = _; rw [d]; rfl
  have d2 : (takeP (takeP p 1) 1).due = [[0], []] := by show (takeP p 1).due.set _ ((ix (takeP p 1).due 1).eraseIdx 0) = _; rw [d1]; rfl
  have d3 : (takeP (takeP (takeP p 1) 1) 0).due = [[], []] := by show (takeP (takeP p 1) 1).due.set _ ((ix (takeP (takeP p 1) 1).due 0).eraseIdx 0) = _; rw [d2]; rfl
  have t1 : TI (takeP p 1) := h.take (by rw [d]; decide)
  have t2 : TI (takeP (takeP p 1) 1) := t1.take (by rw [d1]; decide)
  have t3 : TI (takeP (takeP (takeP p 1) 1) 0) := t2.take (by rw [d2]; decide)
  exact ⟨_, _, _, take_some (x := 1) (r := [2]) (by rw [d]; rfl) (by rw [h.he]; rfl), take_some (x := 2) (r := []) (by rw [d1]; rfl) (by rw [t1.he]; rfl), take_none (by rw [d2]; rfl), take_some (x := 0) (r := []) (by rw [d2]; rfl) (by rw [t2.he]; rfl), take_none (by rw [d3]; rfl), t1, t2, t3⟩
end
end GL
namespace GL
open PySem PySem.Spec PyProof.Rows L2
section
variable {C : Addr} {p : PostM C} {m : PMd} {n x i : Int}
def copR (R : List Int) (c : Int × Int) : Option Int := if c.1 < 0 then none else some (ix R c.1)
structure Sim (n : Int) (p : PostM C) (m : PMd) : Prop where
  ok : PostOk p
  mo : ModOk m
  rd : Rd n m.road p
  ho : m.houses = n
  kn : p.known = m.known.map fun k => ix m.road k
  ow : p.owners = m.lets.map Ltr.who
  co : p.copies = m.lets.map fun l => l.cop.map (copR m.road)
  ma : p.many = m.lets.map fun l => l.cop.map Prod.snd
  he : p.here = m.lets.map Ltr.here
  du : ∀ i, 0 ≤ i → i < (m.known.length : Int) → ix p.due i = (mineM m i).drop (ix m.taken i).toNat
theorem ix_map {α β : Type} [Inhabited α] [Inhabited β] {f : α → β} {xs : List α} {k : Int} (h : 0 ≤ k ∧ k < (xs.length : Int)) : ix (xs.map f) k = f (ix xs k) := by
  have h1 := ix_at (xs := xs.map f) (i := k) h.1 (by rw [List.length_map]; exact h.2)
  rw [List.getElem?_map, ix_at h.1 h.2] at h1
  exact (Option.some.inj h1).symm
theorem Sim.carry (h : Sim n p m) (hb : 0 ≤ x ∧ x < n) (hs : m.road.length < 1000) : Sim n (carryP p x) { m with road := m.road ++ [x] } := by
  have hmo := h.mo
  have hlen : ((m.road ++ [x]).length : Int) = (m.road.length : Int) + 1 := by rw [List.length_append]; simp
  refine ⟨h.ok.carry (by rw [h.rd.ln]; exact hb), ⟨by rw [List.length_append]; simp only [List.length_singleton]; omega, fun y hy => ?_, hmo.ll, hmo.tk, fun y hy => ?_, hmo.at_⟩, h.rd.carry hb, h.ho, ?_, h.ow, ?_, h.ma, h.he, h.du⟩
  · have := hmo.kn y hy
    dsimp only
    rw [hlen]; omega
  · obtain ⟨h1, h2, h3, h4⟩ := hmo.lt y hy
    refine ⟨h1, h2, h3, fun c hc => ?_⟩
    have := h4 c hc
    dsimp only
    rw [hlen]; omega
  · show p.known = _
    rw [h.kn]
    refine List.map_congr_left fun k hk => ?_
    dsimp only
    rw [ix_snocL (hmo.kn k hk)]
  · show p.copies = _
    rw [h.co]
    refine List.map_congr_left fun l hl => ?_
    refine List.map_congr_left fun c hc => ?_
    unfold copR
    dsimp only
    by_cases e : c.1 < 0
    · rw [if_pos e, if_pos e]
    · rw [if_neg e, if_neg e, ix_snocL ⟨by omega, (hmo.lt l hl).2.2.2 c hc⟩]
theorem Sim.carry_same (h : Sim n p m) (e : x = lastI m.road) : postCarry p x = .inl .noHouse := by
  unfold postCarry
  rw [if_pos (by rw [h.rd.at_]; exact e)]
theorem set_mapP {α β : Type} {f : α → β} {xs : List α} {k : Nat} {y : α} : (xs.set k y).map f = (xs.map f).set k (f y) := List.map_set ..
theorem Sim.learn (h : Sim n p m) : Sim n (learnP p i) { m with known := m.known.set i.toNat ((m.road.length : Int) - 1) } := by
  have hmo := h.mo
  have hl := hmo.rl
  refine ⟨h.ok.learn, ⟨hmo.rl, fun y hy => ?_, hmo.ll, by dsimp only; rw [List.length_set]; exact hmo.tk, fun y hy => ?_, hmo.at_⟩, h.rd.learn, h.ho, ?_, h.ow, h.co, h.ma, h.he, fun j h0 h1 => ?_⟩
  · rcases List.mem_or_eq_of_mem_set hy with hy | hy
    · exact hmo.kn y hy
    · rw [hy]; dsimp only; omega
  · have := hmo.lt y hy
    dsimp only
    rw [List.length_set]
    exact this
  · show p.known.set i.toNat p.at_ = _
    rw [set_mapP, h.kn, h.rd.at_]
    rfl
  · dsimp only at h1
    rw [List.length_set] at h1
    exact h.du j h0 h1
theorem ix_snocA {α : Type} [Inhabited α] {xs : List α} {y : α} {k : Int} (h : 0 ≤ k ∧ k < (xs.length : Int)) : ix (xs ++ [y]) k = ix xs k := by
  unfold ix
  rw [List.getD_eq_getElem?_getD, List.getD_eq_getElem?_getD, List.getElem?_append_left (by omega)]
theorem ix_snocB {α : Type} [Inhabited α] {xs : List α} {y : α} : ix (xs ++ [y]) (xs.length : Int) = y := by
  unfold ix
  rw [List.getD_eq_getElem?_getD, List.getElem?_append_right (by omega)]
  simp
theorem rng_snocP {k : Nat} : rng 0 ((k + 1 : Nat) : Int) = rng 0 (k : Int) ++ [(k : Int)] := by
  unfold rng
  rw [show ((((k + 1 : Nat) : Int)) - 0).toNat = k + 1 by omega, show (((k : Int)) - 0).toNat = k by omega, List.range_succ, List.map_append]
  simp
theorem mine_snoc {l : Ltr} {j : Int} : mineM { m with lets := m.lets ++ [l] } j = mineM m j ++ if l.who = j then [(m.lets.length : Int)] else [] := by
  unfold mineM
  dsimp only
  rw [List.length_append, List.length_singleton, rng_snocP, List.filter_append]
  congr 1
  · refine List.filter_congr fun k hk => ?_
    have := mem_rng.mp hk
    rw [ix_snocA ⟨this.1, this.2⟩]
  · rw [List.filter_cons, ix_snocB, List.filter_nil]
    by_cases e : l.who = j
    · rw [if_pos e, if_pos (decide_eq_true e)]
    · rw [if_neg e, if_neg (by rw [decide_eq_false e]; decide)]
theorem Sim.send (h : Sim n p m) (hi : 0 ≤ i ∧ i < (m.known.length : Int)) (hs : m.lets.length < 1000) (hd : (ix p.due i).length < 10000) : (p.owners.length : Int) = (m.lets.length : Int) ∧ Sim n (sendP p i) { m with lets := m.lets ++ [⟨i, false, [(ix m.known i, 0)]⟩] } := by
  have hmo := h.mo
  have el : p.owners.length = m.lets.length := by rw [h.ow, List.length_map]
  have ekl : p.known.length = m.known.length := by rw [h.kn, List.length_map]
  have hk := hmo.kn _ (ix_inP hi)
  have eki : ix p.known i = ix m.road (ix m.known i) := by rw [h.kn, ix_map hi]
  refine ⟨by rw [el], h.ok.send (by rw [ekl]; exact hi) (by omega) hd, ⟨hmo.rl, hmo.kn, by rw [List.length_append]; simp only [List.length_singleton]; omega, hmo.tk, fun y hy => ?_, fun j h0 h1 => ?_⟩, h.rd.send, h.ho, h.kn, ?_, ?_, ?_, ?_, fun j h0 h1 => ?_⟩
  · rcases List.mem_append.mp hy with hy | hy
    · exact hmo.lt y hy
    · rw [List.mem_singleton.mp hy]
      exact ⟨hi, Nat.one_pos, (by show 1 ≤ 1000; decide), fun c hc => by rw [List.mem_singleton.mp hc]; exact hk.2⟩
  · have := hmo.at_ j h0 h1
    rw [mine_snoc, List.length_append]
    dsimp only
    omega
  · show p.owners ++ [i] = _
    rw [h.ow, List.map_append]; rfl
  · show p.copies ++ [[some (ix p.known i)]] = _
    rw [h.co, List.map_append, eki]
    show _ ++ _ = _ ++ [[copR m.road (ix m.known i, 0)]]
    unfold copR
    rw [if_neg (show ¬ ix m.known i < 0 by omega)]
  · show p.many ++ [[0]] = _
    rw [h.ma, List.map_append]; rfl
  · show p.here ++ [false] = _
    rw [h.he, List.map_append]; rfl
  · have hdj := h.du j h0 h1
    have hat := hmo.at_ j h0 (by rw [hmo.tk]; exact h1)
    have dl : p.due.length = m.known.length := by rw [← h.ok.kd, ekl]
    rw [mine_snoc]
    show ix (p.due.set i.toNat (ix p.due i ++ [(p.owners.length : Int)])) j = _
    dsimp only
    by_cases e : i = j
    · subst e
      rw [ix_setP (by rw [dl]; exact hi), hdj, el, if_pos rfl, List.drop_append_of_le_length (by omega)]
    · rw [ix_setQ hi.1 h0 e, if_neg e, List.append_nil]
      exact hdj
theorem PostOk.setCM {l : Int} {c : List (Option Int)} {mm : List Int} {hh : List Bool} (h : PostOk p) (hl : 0 ≤ l ∧ l < (p.owners.length : Int)) (e : c.length = mm.length) (s : c.length ≤ 10000) (hc : ∀ x ∈ c, ∀ k, x = some k → 0 ≤ k ∧ k < (p.leads.length : Int)) (eh : hh.length = p.here.length) :
    PostOk ({ p with copies := p.copies.set l.toNat c, many := p.many.set l.toNat mm, here := hh } : PostM C) := by
  have e1 := h.oc
  have e2 := h.om
  have e3 := h.oh
  refine ⟨h.l0, h.at_, h.kd, h.kn, h.ld, ?_, ?_, ?_, h.ow, fun k => ?_, fun d hd y hy k ek => ?_, h.du, h.sz.1, fun d hd => ?_, h.sz.2.2⟩
  · show _ = (p.copies.set _ _).length; rw [List.length_set]; exact e1
  · show _ = (p.many.set _ _).length; rw [List.length_set]; exact e2
  · show _ = hh.length; rw [eh]; exact e3
  · show ((p.copies.set l.toNat c).getD k []).length = ((p.many.set l.toNat mm).getD k []).length
    have hk := h.cm k
    rw [List.getD_eq_getElem?_getD, List.getD_eq_getElem?_getD] at hk ⊢
    by_cases e0 : l.toNat = k
    · subst e0
      rw [List.getElem?_set_self (by omega), List.getElem?_set_self (by omega)]
      exact e
    · rw [List.getElem?_set_ne e0, List.getElem?_set_ne e0]
      exact hk
  · rcases List.mem_or_eq_of_mem_set hd with hd | hd
    · exact h.cp d hd y hy k ek
    · rw [hd] at hy
      exact hc y hy k ek
  · rcases List.mem_or_eq_of_mem_set hd with hd | hd
    · exact h.sz.2.1 d hd
    · rw [hd]; exact s
theorem mine_set {k j : Int} {y : Ltr} (hk : 0 ≤ k ∧ k < (m.lets.length : Int)) (e : y.who = (ix m.lets k).who) : mineM { m with lets := m.lets.set k.toNat y } j = mineM m j := by
  unfold mineM
  dsimp only
  rw [List.length_set]
  refine List.filter_congr fun q hq => ?_
  have h1 := mem_rng.mp hq
  by_cases c : k = q
  · subst c
    rw [ix_setP hk, e]
  · rw [ix_setQ hk.1 h1.1 c]
theorem Sim.setL {k : Int} {y : Ltr} {p' : PostM C} (h : Sim n p m) (hk : 0 ≤ k ∧ k < (m.lets.length : Int)) (ew : y.who = (ix m.lets k).who) (y1 : 0 < y.cop.length ∧ y.cop.length ≤ 1000) (y2 : ∀ c ∈ y.cop, c.1 < (m.road.length : Int))
    (ep : p' = { p with copies := p.copies.set k.toNat (y.cop.map (copR m.road)), many := p.many.set k.toNat (y.cop.map Prod.snd), here := p.here.set k.toNat y.here }) : Sim n p' { m with lets := m.lets.set k.toNat y } := by
  have hmo := h.mo
  have el : p.owners.length = m.lets.length := by rw [h.ow, List.length_map]
  have hw := (hmo.lt _ (ix_inP hk)).1
  subst ep
  refine ⟨h.ok.setCM (by rw [el]; exact hk) (by rw [List.length_map, List.length_map]) (by rw [List.length_map]; omega) (fun x hx v ev => ?_) (by rw [List.length_set]), ⟨hmo.rl, hmo.kn, by dsimp only; rw [List.length_set]; exact hmo.ll, hmo.tk, fun z hz => ?_, fun j h0 h1 => ?_⟩, ⟨h.rd.n2, h.rd.ln, h.rd.ne, h.rd.rb, h.rd.at_, h.rd.ld⟩, h.ho, h.kn, ?_, ?_, ?_, ?_, fun j h0 h1 => ?_⟩
  · obtain ⟨c, hc, rfl⟩ := List.mem_map.mp hx
    unfold copR at ev
    by_cases e : c.1 < 0
    · rw [if_pos e] at ev; cases ev
    · rw [if_neg e] at ev
      cases ev
      rw [h.rd.ln]
      exact h.rd.ixb ⟨by omega, y2 c hc⟩
  · rcases List.mem_or_eq_of_mem_set hz with hz | hz
    · exact hmo.lt z hz
    · rw [hz]
      exact ⟨by rw [ew]; exact hw, y1.1, y1.2, y2⟩
  · rw [mine_set hk ew]
    exact hmo.at_ j h0 h1
  · show p.owners = _
    rw [set_mapP, h.ow, ew, set_ixP (by rw [List.length_map]; exact hk) (ix_map hk)]
  · show p.copies.set _ _ = _
    rw [set_mapP, h.co]
  · show p.many.set _ _ = _
    rw [set_mapP, h.ma]
  · show p.here.set _ _ = _
    rw [set_mapP, h.he]
  · rw [mine_set hk ew]
    exact h.du j h0 h1
section
variable {k j : Int}
theorem Sim.ics (h : Sim n p m) (hk : 0 ≤ k ∧ k < (m.lets.length : Int)) : ix p.copies k = (ix m.lets k).cop.map (copR m.road) ∧ ix p.many k = (ix m.lets k).cop.map Prod.snd ∧ ix p.here k = (ix m.lets k).here ∧ ix p.owners k = (ix m.lets k).who :=
  ⟨by rw [h.co, ix_map hk], by rw [h.ma, ix_map hk], by rw [h.he, ix_map hk], by rw [h.ow, ix_map hk]⟩
theorem Sim.selfH (h : Sim n p m) (hk : 0 ≤ k ∧ k < (m.lets.length : Int)) : p.here.set k.toNat (ix m.lets k).here = p.here := set_ixP (by rw [h.he, List.length_map]; exact hk) (h.ics hk).2.2.1
theorem Sim.double (h : Sim n p m) (hk : 0 ≤ k ∧ k < (m.lets.length : Int)) (hs : (ix m.lets k).cop.length < 1000) : ∃ p', postDouble p k = .inr (((ix m.lets k).cop.length : Int), p') ∧ Sim n p' { m with lets := m.lets.set k.toNat { ix m.lets k with cop := (ix m.lets k).cop ++ [(ix m.known (ix m.lets k).who, 0)] } } := by
  obtain ⟨i1, i2, i3, i4⟩ := h.ics hk
  have hlt := h.mo.lt _ (ix_inP hk)
  have hkn := h.mo.kn _ (ix_inP hlt.1)
  have el : p.owners.length = m.lets.length := by rw [h.ow, List.length_map]
  refine ⟨_, by unfold postDouble; rw [if_pos (by rw [el]; exact hk), i1, List.length_map], ?_⟩
  refine h.setL hk rfl (by dsimp only; rw [List.length_append, List.length_singleton]; omega) (fun c hc => ?_) ?_
  · rcases List.mem_append.mp hc with hc | hc
    · exact hlt.2.2.2 c hc
    · rw [List.mem_singleton.mp hc]; exact hkn.2
  · rw [List.map_append, List.map_append, i2, i4, h.selfH hk, h.kn, ix_map hlt.1]
    have e : copR m.road (ix m.known (ix m.lets k).who, 0) = some (ix m.road (ix m.known (ix m.lets k).who)) := by
      unfold copR
      rw [if_neg (show ¬ ix m.known (ix m.lets k).who < 0 by omega)]
    rw [show List.map (copR m.road) [(ix m.known (ix m.lets k).who, (0 : Int))] = [copR m.road (ix m.known (ix m.lets k).who, 0)] from rfl, e]
    rfl
theorem Sim.hop (h : Sim n p m) (hk : 0 ≤ k ∧ k < (m.lets.length : Int)) (hj : 0 ≤ j ∧ j < ((ix m.lets k).cop.length : Int)) :
    (postHop p k j = .inl .noLetter ∧ hopD m k j = (noLetterD, m)) ∨ ∃ d p' m', postHop p k j = .inr (d, p') ∧ hopD m k j = (d, m') ∧ Sim n p' m' := by
  obtain ⟨i1, i2, i3, i4⟩ := h.ics hk
  have hlt := h.mo.lt _ (ix_inP hk)
  have el : p.owners.length = m.lets.length := by rw [h.ow, List.length_map]
  have hl : (0 ≤ k ∧ k < (p.owners.length : Int)) ∧ 0 ≤ j ∧ j < ((ix p.copies k).length : Int) := ⟨by rw [el]; exact hk, by rw [i1, List.length_map]; exact hj⟩
  have ic : ix (ix p.copies k) j = copR m.road (ix (ix m.lets k).cop j) := by rw [i1, ix_map hj]
  have im : ix (ix p.many k) j = (ix (ix m.lets k).cop j).2 := by rw [i2, ix_map hj]
  have hcb := hlt.2.2.2 _ (ix_inP hj)
  unfold hopD
  by_cases c0 : (ix (ix m.lets k).cop j).1 < 0
  · rw [if_pos c0]
    refine .inl ⟨hop_none hl ?_, rfl⟩
    rw [ic]; unfold copR; rw [if_pos c0]
  rw [if_neg c0]
  have hcc : 0 ≤ (ix (ix m.lets k).cop j).1 ∧ (ix (ix m.lets k).cop j).1 < (m.road.length : Int) := ⟨by omega, hcb⟩
  have is : ix (ix p.copies k) j = some (ix m.road (ix (ix m.lets k).cop j).1) := by rw [ic]; unfold copR; rw [if_neg c0]
  right
  by_cases c1 : ix m.road (ix (ix m.lets k).cop j).1 = lastI m.road
  · rw [if_pos c1]
    refine ⟨_, _, _, hop_here hl is (by rw [h.rd.at_]; exact c1), rfl, ?_⟩
    refine h.setL hk rfl (by dsimp only; rw [List.length_set]; exact ⟨hlt.2.1, hlt.2.2.1⟩) (fun c hc => ?_) ?_
    · rcases List.mem_or_eq_of_mem_set hc with hc | hc
      · exact hlt.2.2.2 c hc
      · rw [hc]; dsimp only; omega
    · rw [set_mapP, set_mapP, i1]
      dsimp only
      have e1 : copR m.road (-1, (ix (ix m.lets k).cop j).2) = none := rfl
      have e2 : ((ix m.lets k).cop.map Prod.snd).set j.toNat (ix (ix m.lets k).cop j).2 = (ix m.lets k).cop.map Prod.snd := set_ixP (by rw [List.length_map]; exact hj) (ix_map hj)
      have e3 : p.many.set k.toNat ((ix m.lets k).cop.map Prod.snd) = p.many := set_ixP (by rw [h.ma, List.length_map]; exact hk) i2
      rw [e1, e2, e3]
  · rw [if_neg c1]
    have haw := away_in hcc c1
    have hat : (ix (ix m.lets k).cop j).1 < (m.road.length : Int) - 1 := by
      by_cases e : (ix (ix m.lets k).cop j).1 = (m.road.length : Int) - 1
      · exact absurd (by rw [e]; rfl) c1
      · omega
    have hld := h.rd.ld _ hcc.1 hat
    refine ⟨_, _, _, (hop_on hl is (by rw [h.rd.at_]; exact c1)).trans (by rw [hld]; rfl), rfl, ?_⟩
    refine h.setL hk rfl (by dsimp only; rw [List.length_set]; exact ⟨hlt.2.1, hlt.2.2.1⟩) (fun c hc => ?_) ?_
    · rcases List.mem_or_eq_of_mem_set hc with hc | hc
      · exact hlt.2.2.2 c hc
      · rw [hc]; exact haw.2.2
    · rw [set_mapP, set_mapP, i1, i2, ix_map hj, h.selfH hk]
      dsimp only
      have e1 : copR m.road (maxL (awayM m.road (ix m.road (ix (ix m.lets k).cop j).1)) + 1, (ix (ix m.lets k).cop j).2 + 1) = some (ix m.road (maxL (aways m.road (ix (ix m.lets k).cop j).1) + 1)) := by
        unfold copR
        rw [if_neg (show ¬ maxL (awayM m.road (ix m.road (ix (ix m.lets k).cop j).1)) + 1 < 0 by omega)]
        rfl
      rw [e1]
end
theorem PostOk.dueE (h : PostOk p) (hi : 0 ≤ i ∧ i < (p.due.length : Int)) : PostOk ({ p with due := p.due.set i.toNat ((ix p.due i).eraseIdx 0) } : PostM C) := by
  refine ⟨h.l0, h.at_, by show _ = (p.due.set _ _).length; rw [List.length_set]; exact h.kd, h.kn, h.ld, h.oc, h.om, h.oh, h.ow, h.cm, h.cp, fun d hd y hy => ?_, h.sz.1, h.sz.2.1, fun d hd => ?_⟩
  · rcases List.mem_or_eq_of_mem_set hd with hd | hd
    · exact h.du d hd y hy
    · rw [hd] at hy
      exact h.du _ (ix_inP hi) y (List.mem_of_mem_eraseIdx hy)
  · rcases List.mem_or_eq_of_mem_set hd with hd | hd
    · exact h.sz.2.2 d hd
    · rw [hd]
      exact Nat.le_trans (List.length_eraseIdx_le ..) (h.sz.2.2 _ (ix_inP hi))
theorem Sim.take (h : Sim n p m) (hi : 0 ≤ i ∧ i < (m.known.length : Int)) : ∃ p', postTake p i = .inr ((takeD m i).1, p') ∧ Sim n p' (takeD m i).2 := by
  have hmo := h.mo
  have ht := hmo.at_ i hi.1 (by rw [hmo.tk]; exact hi.2)
  have hd := h.du i hi.1 hi.2
  have ekl : p.known.length = m.known.length := by rw [h.kn, List.length_map]
  have dl : p.due.length = m.known.length := by rw [← h.ok.kd, ekl]
  have hib : 0 ≤ i ∧ i < (p.due.length : Int) := by rw [dl]; exact hi
  unfold takeD
  by_cases c : ix m.taken i = ((mineM m i).length : Int)
  · rw [if_pos (.inl c)]
    refine ⟨p, take_none ?_, h⟩
    rw [hd]
    exact List.drop_eq_nil_of_le (by omega)
  have hlt : (ix m.taken i).toNat < (mineM m i).length := by omega
  have hb : 0 ≤ ix m.taken i ∧ ix m.taken i < ((mineM m i).length : Int) := by omega
  have hg : (mineM m i)[(ix m.taken i).toNat]? = some (ix (mineM m i) (ix m.taken i)) := ix_at hb.1 hb.2
  have hdc : (mineM m i).drop (ix m.taken i).toNat = ix (mineM m i) (ix m.taken i) :: (mineM m i).drop ((ix m.taken i).toNat + 1) := by
    rw [List.drop_eq_getElem_cons hlt]
    rw [List.getElem?_eq_getElem hlt] at hg
    rw [Option.some.inj hg]
  rw [hdc] at hd
  have hml := mine_in (ix_inP hb)
  have hh : ix p.here (ix (mineM m i) (ix m.taken i)) = (ix m.lets (ix (mineM m i) (ix m.taken i))).here := (h.ics hml).2.2.1
  by_cases c2 : (ix m.lets (ix (mineM m i) (ix m.taken i))).here = false
  · rw [if_pos (.inr c2)]
    refine ⟨p, ?_, h⟩
    unfold postTake
    rw [if_pos (.inr (by rw [hd]; show ix p.here (ix (mineM m i) (ix m.taken i)) = false; rw [hh]; exact c2))]
  · rw [if_neg (fun e => e.elim c c2)]
    have c3 : (ix m.lets (ix (mineM m i) (ix m.taken i))).here = true := by simpa using c2
    refine ⟨takeP p i, take_some hd (by rw [hh]; exact c3), ?_⟩
    refine ⟨h.ok.dueE hib, ⟨hmo.rl, hmo.kn, hmo.ll, by dsimp only; rw [List.length_set]; exact hmo.tk, hmo.lt, fun j h0 h1 => ?_⟩, ⟨h.rd.n2, h.rd.ln, h.rd.ne, h.rd.rb, h.rd.at_, h.rd.ld⟩, h.ho, h.kn, h.ow, h.co, h.ma, h.he, fun j h0 h1 => ?_⟩
    · dsimp only at h1 ⊢
      rw [List.length_set] at h1
      show 0 ≤ ix (m.taken.set i.toNat (ix m.taken i + 1)) j ∧ ix (m.taken.set i.toNat (ix m.taken i + 1)) j ≤ ((mineM m j).length : Int)
      by_cases e : i = j
      · subst e
        rw [ix_setP (by rw [hmo.tk]; exact hi)]
        omega
      · rw [ix_setQ hi.1 h0 e]
        exact hmo.at_ j h0 h1
    · show ix (p.due.set i.toNat ((ix p.due i).eraseIdx 0)) j = (mineM m j).drop (ix (m.taken.set i.toNat (ix m.taken i + 1)) j).toNat
      by_cases e : i = j
      · subst e
        rw [ix_setP hib, ix_setP (by rw [hmo.tk]; exact hi), hd, show (ix m.taken i + 1).toNat = (ix m.taken i).toNat + 1 by omega]
        rfl
      · rw [ix_setQ hi.1 h0 e, ix_setQ hi.1 h0 e]
        exact h.du j h0 h1
theorem Sim.hops (h : Sim n p m) {k j : Int} (hk : 0 ≤ k ∧ k < (m.lets.length : Int)) (hj : 0 ≤ j ∧ j < ((ix m.lets k).cop.length : Int)) : postHops p k j = .inr ((ix (ix m.lets k).cop j).2, p) := by
  obtain ⟨i1, i2, i3, i4⟩ := h.ics hk
  have el : p.owners.length = m.lets.length := by rw [h.ow, List.length_map]
  unfold postHops
  rw [if_pos ⟨by rw [el]; exact hk, by rw [i1, List.length_map]; exact hj⟩, i2, ix_map hj]
theorem Sim.step (h : Sim n p m) {w : Wd} (hw : CallP m w) (h6 : w.w = Str.ofString "carry" ∨ w.w = Str.ofString "learn" ∨ w.w = Str.ofString "send" ∨ w.w = Str.ofString "take" ∨ w.w = Str.ofString "double" ∨ w.w = Str.ofString "hop" ∨ w.w = Str.ofString "hops")
    (hc : w.w = Str.ofString "carry" → 0 ≤ ix w.n 0 ∧ ix w.n 0 < n) (hr : m.road.length < 1000) (hl : m.lets.length < 1000) (hcp : ∀ x ∈ m.lets, x.cop.length < 1000) (hd : ∀ x ∈ p.due, x.length < 10000) :
    ∃ d p' m', askD p w = (d, p') ∧ callD m w = (d, m') ∧ Sim n p' m' := by
  have ekl : p.known.length = m.known.length := by rw [h.kn, List.length_map]
  have el : p.owners.length = m.lets.length := by rw [h.ow, List.length_map]
  have dl : p.due.length = m.known.length := by rw [← h.ok.kd, ekl]
  unfold askD askR callD
  by_cases c1 : w.w = Str.ofString "carry"
  · rw [if_pos c1, if_pos c1]
    by_cases e : ix w.n 0 = lastI m.road
    · rw [if_pos e, mapD_l (h.carry_same e)]
      exact ⟨_, _, _, rfl, rfl, h⟩
    · rw [if_neg e, mapD_r (carry_eq h.rd e)]
      exact ⟨_, _, _, rfl, rfl, h.carry (hc c1) hr⟩
  rw [if_neg c1, if_neg c1]
  by_cases c2 : w.w = Str.ofString "learn"
  · rw [if_pos c2, if_pos c2, mapD_r learn_eq]
    exact ⟨_, _, _, rfl, rfl, h.learn⟩
  rw [if_neg c2, if_neg c2]
  by_cases c3 : w.w = Str.ofString "send"
  · have hi := hw.i (.inr (.inl c3))
    obtain ⟨e1, e2⟩ := h.send hi hl (hd _ (ix_inP (by rw [dl]; exact hi)))
    rw [if_pos c3, if_pos c3, mapD_r send_eq, ← e1]
    exact ⟨_, _, _, rfl, rfl, e2⟩
  rw [if_neg c3, if_neg c3]
  by_cases c4 : w.w = Str.ofString "take"
  · have hi := hw.i (.inr (.inr c4))
    obtain ⟨p', e1, e2⟩ := h.take hi
    rw [if_pos c4, if_pos c4, mapD_r e1]
    exact ⟨_, _, _, rfl, rfl, e2⟩
  rw [if_neg c4, if_neg c4]
  have i1 : ∀ k, 0 ≤ k ∧ k < (m.lets.length : Int) → (ix p.copies k).length = (ix m.lets k).cop.length := fun k hk => by rw [(h.ics hk).1, List.length_map]
  by_cases bk : 0 ≤ ix w.n 0 ∧ ix w.n 0 < (m.lets.length : Int)
  · rw [if_neg (not_not_intro bk)]
    by_cases c5 : w.w = Str.ofString "double"
    · obtain ⟨p', e1, e2⟩ := h.double bk (hcp _ (ix_inP bk))
      rw [if_pos c5, if_pos c5, mapD_r e1]
      exact ⟨_, _, _, rfl, rfl, e2⟩
    rw [if_neg c5, if_neg c5]
    by_cases bj : 0 ≤ ix w.n 1 ∧ ix w.n 1 < ((ix m.lets (ix w.n 0)).cop.length : Int)
    · rw [if_neg (not_not_intro bj)]
      by_cases c6 : w.w = Str.ofString "hop"
      · have c7 : ¬ w.w = Str.ofString "hops" := fun e => by rw [c6] at e; exact absurd e (by decide +kernel)
        rw [if_pos c6, if_neg c7]
        rcases h.hop bk bj with ⟨e1, e2⟩ | ⟨d, p', m', e1, e2, e3⟩
        · rw [mapD_l e1, e2]
          exact ⟨_, _, _, rfl, rfl, h⟩
        · rw [mapD_r e1, e2]
          exact ⟨_, _, _, rfl, rfl, e3⟩
      · have c7 : w.w = Str.ofString "hops" := by
          rcases h6 with e | e | e | e | e | e | e
          · exact absurd e c1
          · exact absurd e c2
          · exact absurd e c3
          · exact absurd e c4
          · exact absurd e c5
          · exact absurd e c6
          · exact e
        rw [if_neg c6, if_pos c7, mapD_r (h.hops bk bj)]
        exact ⟨_, _, _, rfl, rfl, h⟩
    · rw [if_pos bj]
      have e1 : postHop p (ix w.n 0) (ix w.n 1) = .inl .noLetter := by
        unfold postHop
        rw [if_neg (fun e => bj (by rw [← i1 _ bk]; exact e.2))]
      have e2 : postHops p (ix w.n 0) (ix w.n 1) = .inl .noLetter := by
        unfold postHops
        rw [if_neg (fun e => bj (by rw [← i1 _ bk]; exact e.2))]
      rw [mapD_l e1, mapD_l e2]
      by_cases c6 : w.w = Str.ofString "hop"
      · rw [if_pos c6]; exact ⟨_, _, _, rfl, rfl, h⟩
      · rw [if_neg c6]; exact ⟨_, _, _, rfl, rfl, h⟩
  · rw [if_pos bk]
    have e0 : postDouble p (ix w.n 0) = .inl .noLetter := by
      unfold postDouble
      rw [if_neg (by rw [el]; exact bk)]
    have e1 : postHop p (ix w.n 0) (ix w.n 1) = .inl .noLetter := by
      unfold postHop
      rw [if_neg (fun e => bk (by rw [← el]; exact e.1))]
    have e2 : postHops p (ix w.n 0) (ix w.n 1) = .inl .noLetter := by
      unfold postHops
      rw [if_neg (fun e => bk (by rw [← el]; exact e.1))]
    rw [mapD_l e0, mapD_l e1, mapD_l e2]
    by_cases c5 : w.w = Str.ofString "double"
    · rw [if_pos c5]; exact ⟨_, _, _, rfl, rfl, h⟩
    rw [if_neg c5]
    by_cases c6 : w.w = Str.ofString "hop"
    · rw [if_pos c6]; exact ⟨_, _, _, rfl, rfl, h⟩
    · rw [if_neg c6]; exact ⟨_, _, _, rfl, rfl, h⟩
theorem newPost_ok {a s : Int} (h : 2 ≤ n ∧ n ≤ 1000) (ha : 0 ≤ a ∧ a < n) (hs : 0 ≤ s) : PostOk (postNew n a s : PostM C) := by
  have l0 : (postNew n a s : PostM C).leads.length = n.toNat := List.length_replicate ..
  have k0 : (postNew n a s : PostM C).known.length = s.toNat := List.length_replicate ..
  refine ⟨by rw [l0]; omega, by rw [l0]; show 0 ≤ a ∧ a < _; omega, by rw [k0]; exact (List.length_replicate ..).symm, fun y hy => ?_, fun y hy k e => ?_, rfl, rfl, rfl, (fun y hy => by cases hy), fun k => rfl, (fun c hc => by cases hc), fun d hd y hy => ?_, (by show 0 ≤ 10000; decide), (fun c hc => by cases hc), fun d hd => ?_⟩
  · have : y = a := (List.mem_replicate.mp hy).2
    rw [this, l0]; omega
  · rw [(List.mem_replicate.mp hy).2] at e; cases e
  · rw [(List.mem_replicate.mp hd).2] at hy; cases hy
  · rw [(List.mem_replicate.mp hd).2]; exact Nat.zero_le _
theorem ix_rep {α : Type} [Inhabited α] {k : Nat} {v : α} {j : Int} (h : 0 ≤ j ∧ j < (k : Int)) : ix (List.replicate k v) j = v := by
  have h1 := ix_at (xs := List.replicate k v) (i := j) h.1 (by rw [List.length_replicate]; exact h.2)
  rw [List.getElem?_replicate, if_pos (by omega)] at h1
  exact (Option.some.inj h1).symm
theorem Sim.start {a s : Int} (h : 2 ≤ n ∧ n ≤ 1000) (ha : 0 ≤ a ∧ a < n) (hs : 0 ≤ s) : Sim n (postNew n a s : PostM C) (modelM n a s) := by
  have m0 : ∀ i, mineM (modelM n a s) i = [] := fun i => rfl
  have k0 : ((modelM n a s).known.length : Int) = s := by show ((List.replicate s.toNat (0 : Int)).length : Int) = s; rw [List.length_replicate]; omega
  have t0 : ((modelM n a s).taken.length : Int) = s := by show ((List.replicate s.toNat (0 : Int)).length : Int) = s; rw [List.length_replicate]; omega
  have it : ∀ i, 0 ≤ i → i < s → ix (modelM n a s).taken i = 0 := fun i h0 h1 => ix_rep ⟨h0, by omega⟩
  refine ⟨newPost_ok h ha hs, ⟨⟨Nat.one_pos, by show 1 ≤ 1000; decide⟩, fun x hx => ?_, Nat.zero_le _, rfl, (fun x hx => by cases hx), fun i h0 h1 => ?_⟩, ⟨h, ?_, Nat.one_pos, fun x hx => ?_, rfl, fun k h0 h1 => ?_⟩, rfl, ?_, rfl, rfl, rfl, rfl, fun i h0 h1 => ?_⟩
  · rw [(List.mem_replicate.mp hx).2]
    exact ⟨Int.le_refl _, by show (0 : Int) < ((1 : Nat) : Int); decide⟩
  · rw [t0] at h1
    rw [it i h0 h1, m0]
    exact ⟨Int.le_refl _, Int.le_refl _⟩
  · show ((List.replicate n.toNat none).length : Int) = n
    rw [List.length_replicate]; omega
  · rw [show x = a from List.mem_singleton.mp hx]; exact ha
  · have : k < ((1 : Nat) : Int) - 1 := h1
    omega
  · show List.replicate s.toNat a = (List.replicate s.toNat (0 : Int)).map _
    rw [List.map_replicate]
    rfl
  · rw [k0] at h1
    rw [m0, List.drop_nil]
    exact ix_rep ⟨h0, by omega⟩
structure Szs (T : Nat) (m : PMd) : Prop where
  r : m.road.length ≤ T + 1
  l : m.lets.length ≤ T
  c : ∀ x ∈ m.lets, x.cop.length ≤ T + 1
theorem Szs.up {T : Nat} (h : Szs T m) : Szs (T + 1) m := ⟨by have := h.r; omega, by have := h.l; omega, fun x hx => by have := h.c x hx; omega⟩
theorem Szs.set {T : Nat} (h : Szs T m) {k : Nat} {y : Ltr} (hy : y.cop.length ≤ T + 2) : Szs (T + 1) { m with lets := m.lets.set k y } := by
  refine ⟨by have := h.r; dsimp only; omega, by have := h.l; dsimp only; rw [List.length_set]; omega, fun x hx => ?_⟩
  rcases List.mem_or_eq_of_mem_set hx with hx | hx
  · have := h.c x hx; omega
  · rw [hx]; omega
theorem Sim.due_len (h : Sim n p m) : ∀ x ∈ p.due, x.length ≤ m.lets.length := fun x hx => by
  obtain ⟨k, hk⟩ := List.getElem?_of_mem hx
  have hl := (List.getElem?_eq_some_iff.mp hk).1
  have dl : p.due.length = m.known.length := by rw [← h.ok.kd, h.kn, List.length_map]
  have h1 := h.du (k : Int) (by omega) (by omega)
  have h2 := ix_at (xs := p.due) (i := (k : Int)) (by omega) (by omega)
  rw [Int.toNat_natCast, hk] at h2
  rw [Option.some.inj h2, h1, List.length_drop]
  have h3 : (mineM m (k : Int)).length ≤ m.lets.length := by
    unfold mineM
    refine Nat.le_trans (List.length_filter_le ..) ?_
    rw [len_rng]; omega
  omega
theorem Sim.go {T : Nat} (h : Sim n p m) (sz : Szs T m) (ht : T < 900) {w : Wd} (hw : CallP m w) (h6 : w.w = Str.ofString "carry" ∨ w.w = Str.ofString "learn" ∨ w.w = Str.ofString "send" ∨ w.w = Str.ofString "take" ∨ w.w = Str.ofString "double" ∨ w.w = Str.ofString "hop" ∨ w.w = Str.ofString "hops")
    (hc : w.w = Str.ofString "carry" → 0 ≤ ix w.n 0 ∧ ix w.n 0 < n) : (askD p w).1 = (callD m w).1 ∧ Sim n (askD p w).2 (callD m w).2 := by
  have hr := sz.r
  have hl := sz.l
  obtain ⟨d, p', m', e1, e2, hs⟩ := h.step hw h6 hc (by omega) (by omega) (fun x hx => by have := sz.c x hx; omega) (fun x hx => by have := h.due_len x hx; omega)
  rw [e1, e2]
  exact ⟨rfl, hs⟩
theorem Szs.start {a s : Int} : Szs 0 (modelM n a s) := ⟨Nat.le_refl _, Nat.le_refl _, fun x hx => by cases hx⟩
end
end GL
namespace GL
open PySem PySem.Spec PyProof.Rows L2
namespace DN
variable {α β : Type} [DecidableEq α]
def del (d : DN α β) (k : α) : DN α β := ⟨d.l.filter fun e => !decide (e.1 = k)⟩
end DN
section
variable {α β : Type} [DecidableEq α]
theorem fnd_map {l : List (α × β)} {k j : α} {x : β} : ((l.map fun e => if e.1 = k then (e.1, x) else e).find? fun e => decide (e.1 = j)).map (·.2) = if j = k then (l.find? fun e => decide (e.1 = j)).map (fun _ => x) else (l.find? fun e => decide (e.1 = j)).map (·.2) := by
  induction l with
  | nil => simp
  | cons e l ih =>
    rw [List.map_cons, List.find?_cons, List.find?_cons]
    by_cases c : e.1 = k
    · rw [if_pos c]
      dsimp only
      by_cases c2 : e.1 = j
      · rw [decide_eq_true c2]
        simp [c2.symm.trans c]
      · rw [decide_eq_false c2]
        exact ih
    · rw [if_neg c]
      by_cases c2 : e.1 = j
      · rw [decide_eq_true c2]
        have : ¬ j = k := fun z => c (c2.trans z)
        simp [this]
      · rw [decide_eq_false c2]
        exact ih
theorem dn_get_put (d : DN α β) (k : α) (x : β) (j : α) : (d.put k x).get? j = if j = k then some x else d.get? j := by
  unfold DN.put
  by_cases c : (d.get? k).isSome = true
  · rw [if_pos c]
    show Option.map _ (List.find? _ (List.map _ d.l)) = _
    rw [fnd_map]
    by_cases e : j = k
    · rw [if_pos e, if_pos e]
      subst e
      unfold DN.get? at c
      rw [Option.isSome_map] at c
      obtain ⟨y, hy⟩ := Option.isSome_iff_exists.mp c
      rw [hy]
      rfl
    · rw [if_neg e, if_neg e]
      rfl
  · rw [if_neg c]
    show Option.map _ (List.find? _ (d.l ++ [(k, x)])) = _
    rw [List.find?_append]
    have hn : d.l.find? (fun e => decide (e.1 = k)) = none := by
      unfold DN.get? at c
      rw [Option.isSome_map] at c
      cases q : d.l.find? (fun e => decide (e.1 = k)) with
      | none => rfl
      | some y => rw [q] at c; exact absurd rfl c
    by_cases e : j = k
    · subst e
      rw [if_pos rfl, hn]
      simp
    · rw [if_neg e]
      unfold DN.get?
      have : ([(k, x)] : List (α × β)).find? (fun e => decide (e.1 = j)) = none := by
        rw [List.find?_cons, decide_eq_false (fun z => e z.symm)]
        rfl
      rw [this, Option.or_none]
theorem dn_get_del (d : DN α β) (k j : α) : (d.del k).get? j = if j = k then none else d.get? j := by
  unfold DN.del DN.get?
  dsimp only
  induction d.l with
  | nil => simp
  | cons e l ih =>
    rw [List.filter_cons]
    by_cases c : e.1 = k
    · rw [decide_eq_true c]
      simp only [Bool.not_true, Bool.false_eq_true, if_false]
      rw [ih]
      by_cases q : j = k
      · rw [if_pos q, if_pos q]
      · rw [if_neg q, if_neg q, List.find?_cons, decide_eq_false (fun z => q (z.symm.trans c))]
    · rw [decide_eq_false c]
      simp only [Bool.not_false, if_true]
      rw [List.find?_cons, List.find?_cons]
      by_cases q : e.1 = j
      · rw [decide_eq_true q]
        simp [show ¬ j = k from fun z => c (q.trans z)]
      · rw [decide_eq_false q]
        exact ih
theorem dn_mem_get {d : DN α β} (hn : (d.l.map (·.1)).Nodup) {e : α × β} (h : e ∈ d.l) : d.get? e.1 = some e.2 := by
  unfold DN.get?
  induction hd : d.l generalizing d with
  | nil => rw [hd] at h; cases h
  | cons x l ih =>
    rw [hd] at h hn
    rw [List.map_cons, List.nodup_cons] at hn
    rw [List.find?_cons]
    rcases List.mem_cons.mp h with q | q
    · rw [q, decide_eq_true rfl]; rfl
    · have : ¬ x.1 = e.1 := fun z => hn.1 (by rw [z]; exact List.mem_map_of_mem q)
      rw [decide_eq_false this]
      exact ih (d := ⟨l⟩) hn.2 q rfl
theorem dn_get_mem {d : DN α β} {k : α} {x : β} (h : d.get? k = some x) : (k, x) ∈ d.l := by
  unfold DN.get? at h
  obtain ⟨y, hy, rfl⟩ := Option.map_eq_some_iff.mp h
  have h1 : y.1 = k := of_decide_eq_true (List.find?_some (p := fun e : α × β => decide (e.1 = k)) hy)
  have h2 := List.mem_of_find?_eq_some hy
  rw [← h1]
  exact h2
theorem dn_nd_put {d : DN α β} (hn : (d.l.map (·.1)).Nodup) (k : α) (x : β) : ((d.put k x).l.map (·.1)).Nodup := by
  unfold DN.put
  by_cases c : (d.get? k).isSome = true
  · rw [if_pos c, List.map_map]
    rw [show (d.l.map ((fun e : α × β => e.1) ∘ fun e => if e.1 = k then (e.1, x) else e)) = d.l.map (·.1) from List.map_congr_left fun e _ => by
      show (if e.1 = k then (e.1, x) else e).1 = e.1
      split <;> rfl]
    exact hn
  · rw [if_neg c, List.map_append]
    refine List.nodup_append.mpr ⟨hn, by simp, fun a ha b hb e => ?_⟩
    rw [List.map_singleton, List.mem_singleton] at hb
    obtain ⟨y, hy, rfl⟩ := List.mem_map.mp ha
    refine c ?_
    rw [show k = y.1 from (e.trans hb).symm, dn_mem_get hn hy]
    rfl
theorem dn_nd_del {d : DN α β} (hn : (d.l.map (·.1)).Nodup) (k : α) : ((d.del k).l.map (·.1)).Nodup := hn.sublist ((List.filter_sublist (l := d.l)).map _)
theorem dn_emp {d : DN α β} (h : ∀ k x, d.get? k ≠ some x) (hn : (d.l.map (·.1)).Nodup) : d.l = [] := by
  cases hd : d.l with
  | nil => rfl
  | cons e l =>
    have he : e ∈ d.l := by rw [hd]; exact List.mem_cons_self
    exact absurd (dn_mem_get hn he) (h _ _)
end
structure S41 where
  houses : Int
  place : Int
  known : List Int
  carried : Int
  sent : List Int
  going : DN (Int × Int) Int
  here : Dct Bool
  taken : List (List Int)
  wrong : Bool
def cp41 (m : PMd) (q : Int × Int) : Int × Int := ix (ix m.lets q.1).cop q.2
structure J41 (n : Int) (m : PMd) (z : S41) : Prop where
  ho : z.houses = n
  at_ : z.place = lastI m.road
  ca : z.carried = (m.road.length : Int) - 1
  kn : z.known = m.known
  se : z.sent = m.lets.map Ltr.who
  nd : (z.going.l.map (·.1)).Nodup
  go : ∀ q t, z.going.get? q = some t → (0 ≤ q.1 ∧ q.1 < (m.lets.length : Int)) ∧ (0 ≤ q.2 ∧ q.2 < ((ix m.lets q.1).cop.length : Int)) ∧ 0 ≤ (cp41 m q).1 ∧ (cp41 m q).2 ≤ (cp41 m q).1 - t
  al : ∀ l, 0 ≤ l → l < (m.lets.length : Int) → (z.going.get? (l, 0)).isSome = true ∨ (ix m.lets l).here = true
  he : ∀ l, 0 ≤ l → l < (m.lets.length : Int) → (ix m.lets l).here = true → (z.here.get? l).isSome = true
  tl : z.taken.length = m.known.length
  tk : ∀ i, 0 ≤ i → i < (m.known.length : Int) → ix z.taken i = (mineM m i).take (ix m.taken i).toNat
  wr : z.wrong = false
section
variable {C : Addr} {p : PostM C} {m : PMd} {n x i k : Int} {z : S41} {q : Int × Int}
theorem J41.kb (h : J41 n m z) (s : Sim n p m) (hi : 0 ≤ i ∧ i < (m.known.length : Int)) : 0 ≤ ix m.known i ∧ ix m.known i < (m.road.length : Int) := s.mo.kn _ (ix_inP hi)
theorem J41.carry (h : J41 n m z) : J41 n { m with road := m.road ++ [x] } { z with place := x, carried := z.carried + 1 } := by
  refine ⟨h.ho, lastI_snocP.symm, ?_, h.kn, h.se, h.nd, h.go, h.al, h.he, h.tl, h.tk, h.wr⟩
  show z.carried + 1 = ((m.road ++ [x]).length : Int) - 1
  rw [h.ca, List.length_append, List.length_singleton]
  omega
theorem J41.learn (h : J41 n m z) : J41 n { m with known := m.known.set i.toNat ((m.road.length : Int) - 1) } { z with known := z.known.set i.toNat z.carried } := by
  refine ⟨h.ho, h.at_, h.ca, ?_, h.se, h.nd, h.go, h.al, h.he, ?_, fun j h0 h1 => ?_, h.wr⟩
  · show z.known.set _ _ = m.known.set _ _
    rw [h.kn, h.ca]
  · show z.taken.length = (m.known.set _ _).length
    rw [List.length_set]
    exact h.tl
  · dsimp only at h1
    rw [List.length_set] at h1
    exact h.tk j h0 h1
theorem ix_sn {α : Type} [Inhabited α] {xs : List α} {y : α} {k : Int} (h : 0 ≤ k ∧ k < (xs.length : Int)) : ix (xs ++ [y]) k = ix xs k := by
  unfold ix
  rw [List.getD_eq_getElem?_getD, List.getD_eq_getElem?_getD, List.getElem?_append_left (by omega)]
theorem ix_snE {α : Type} [Inhabited α] {xs : List α} {y : α} : ix (xs ++ [y]) (xs.length : Int) = y := by
  unfold ix
  rw [List.getD_eq_getElem?_getD, List.getElem?_append_right (by omega)]
  simp
theorem J41.send (h : J41 n m z) (s : Sim n p m) (hi : 0 ≤ i ∧ i < (m.known.length : Int)) : J41 n { m with lets := m.lets ++ [⟨i, false, [(ix m.known i, 0)]⟩] } { z with sent := z.sent ++ [i], going := z.going.put ((m.lets.length : Int), 0) (ix z.known i) } := by
  have hk := s.mo.kn _ (ix_inP hi)
  have hlen : ((m.lets ++ [(⟨i, false, [(ix m.known i, 0)]⟩ : Ltr)]).length : Int) = (m.lets.length : Int) + 1 := by rw [List.length_append, List.length_singleton]; omega
  refine ⟨h.ho, h.at_, h.ca, h.kn, ?_, dn_nd_put h.nd _ _, fun q t e => ?_, fun l l0 l1 => ?_, fun l l0 l1 e => ?_, h.tl, fun j h0 h1 => ?_, h.wr⟩
  · show z.sent ++ [i] = (m.lets ++ [_]).map Ltr.who
    rw [List.map_append, h.se]
    rfl
  · dsimp only at e ⊢
    rw [dn_get_put] at e
    rw [hlen]
    unfold cp41
    by_cases c : q = ((m.lets.length : Int), 0)
    · rw [if_pos c] at e
      cases e
      subst c
      dsimp only
      rw [ix_snE]
      refine ⟨by omega, ⟨Int.le_refl _, by show (0 : Int) < ((1 : Nat) : Int); decide⟩, hk.1, ?_⟩
      show (0 : Int) ≤ ix m.known i - ix z.known i
      rw [h.kn]
      omega
    · rw [if_neg c] at e
      obtain ⟨h1, h2, h3⟩ := h.go q t e
      rw [ix_sn h1]
      exact ⟨by omega, h2, h3⟩
  · dsimp only at l1 ⊢
    rw [hlen] at l1
    by_cases c : l = (m.lets.length : Int)
    · left
      rw [dn_get_put, if_pos (by rw [c])]
      rfl
    · have hl : 0 ≤ l ∧ l < (m.lets.length : Int) := by omega
      rw [ix_sn hl, dn_get_put, if_neg (fun z => c (by injection z))]
      exact h.al l hl.1 hl.2
  · dsimp only at l1 e
    rw [hlen] at l1
    by_cases c : l = (m.lets.length : Int)
    · rw [c, ix_snE] at e
      cases e
    · have hl : 0 ≤ l ∧ l < (m.lets.length : Int) := by omega
      rw [ix_sn hl] at e
      exact h.he l hl.1 hl.2 e
  · dsimp only at h1 ⊢
    rw [h.tk j h0 h1, mine_snoc]
    have hm := s.mo.at_ j h0 (by rw [s.mo.tk]; exact h1)
    rw [List.take_append_of_le_length (by omega)]
theorem ix_setI {α : Type} [Inhabited α] {xs : List α} {k l : Int} {y : α} (hk : 0 ≤ k ∧ k < (xs.length : Int)) (hl : 0 ≤ l) : ix (xs.set k.toNat y) l = if l = k then y else ix xs l := by
  by_cases c : l = k
  · rw [if_pos c, c, ix_setP hk]
  · rw [if_neg c, ix_setQ hk.1 hl (fun z => c z.symm)]
theorem J41.double (h : J41 n m z) (s : Sim n p m) (hk : 0 ≤ k ∧ k < (m.lets.length : Int)) : J41 n { m with lets := m.lets.set k.toNat { ix m.lets k with cop := (ix m.lets k).cop ++ [(ix m.known (ix m.lets k).who, 0)] } } { z with going := z.going.put (k, ((ix m.lets k).cop.length : Int)) (ix z.known (ix z.sent k)) } := by
  have hw := (s.mo.lt _ (ix_inP hk)).1
  have hkn := s.mo.kn _ (ix_inP hw)
  have hse : ix z.sent k = (ix m.lets k).who := by rw [h.se, ix_map hk]
  have hlen : ∀ y : Ltr, ((m.lets.set k.toNat y).length : Int) = (m.lets.length : Int) := fun y => by rw [List.length_set]
  have hcl := (s.mo.lt _ (ix_inP hk)).2.1
  refine ⟨h.ho, h.at_, h.ca, h.kn, ?_, dn_nd_put h.nd _ _, fun q t e => ?_, fun l l0 l1 => ?_, fun l l0 l1 e => ?_, h.tl, fun j h0 h1 => ?_, h.wr⟩
  · show z.sent = _
    rw [set_mapP, h.se]
    exact (set_ixP (by rw [List.length_map]; exact hk) (ix_map hk)).symm
  · dsimp only at e ⊢
    rw [dn_get_put] at e
    rw [hlen]
    unfold cp41
    dsimp only
    by_cases c : q = (k, ((ix m.lets k).cop.length : Int))
    · rw [if_pos c] at e
      cases e
      subst c
      dsimp only
      rw [ix_setI hk hk.1, if_pos rfl]
      dsimp only
      rw [ix_snE, hse, h.kn, List.length_append, List.length_singleton]
      exact ⟨hk, by omega, hkn.1, by show (0 : Int) ≤ _ - _; omega⟩
    · rw [if_neg c] at e
      obtain ⟨h1, h2, h3⟩ := h.go q t e
      unfold cp41 at h3
      rw [ix_setI hk h1.1]
      by_cases c2 : q.1 = k
      · rw [if_pos c2]
        dsimp only
        rw [c2] at h2 h3
        rw [List.length_append, List.length_singleton, ix_sn h2]
        exact ⟨h1, by omega, h3⟩
      · rw [if_neg c2]
        exact ⟨h1, h2, h3⟩
  · dsimp only at l1 ⊢
    rw [hlen] at l1
    rw [dn_get_put, if_neg (fun z => by injection z with _ z2; omega), ix_setI hk l0]
    rcases h.al l l0 l1 with q | q
    · exact .inl q
    · right
      by_cases c : l = k
      · rw [if_pos c]; rw [c] at q; exact q
      · rw [if_neg c]; exact q
  · dsimp only at l1 e
    rw [hlen] at l1
    rw [ix_setI hk l0] at e
    refine h.he l l0 l1 ?_
    by_cases c : l = k
    · rw [if_pos c] at e; rw [c]; exact e
    · rw [if_neg c] at e; exact e
  · have e := mine_set (m := m) (j := j) (y := { ix m.lets k with cop := (ix m.lets k).cop ++ [(ix m.known (ix m.lets k).who, 0)] }) hk rfl
    refine (h.tk j h0 h1).trans ?_
    dsimp only at e ⊢
    rw [e]
theorem take_succI {xs : List Int} {a : Int} (h : 0 ≤ a ∧ a < (xs.length : Int)) : xs.take (a + 1).toNat = xs.take a.toNat ++ [ix xs a] := by
  have e := ix_at h.1 h.2
  rw [show (a + 1).toNat = a.toNat + 1 from by omega, List.take_succ, e]
  rfl
theorem J41.take (h : J41 n m z) (s : Sim n p m) (hi : 0 ≤ i ∧ i < (m.known.length : Int)) : ((takeD m i).1 = none ∧ (takeD m i).2 = m) ∨ ∃ l, (takeD m i).1 = some l ∧ (z.here.get? l).isSome = true ∧ J41 n (takeD m i).2 { z with taken := z.taken.set i.toNat (ix z.taken i ++ [l]) } := by
  have hm := s.mo.at_ i hi.1 (by rw [s.mo.tk]; exact hi.2)
  have ht := h.tk i hi.1 hi.2
  unfold takeD
  by_cases c : ix m.taken i = ((mineM m i).length : Int) ∨ (ix m.lets (ix (mineM m i) (ix m.taken i))).here = false
  · rw [if_pos c]
    exact .inl ⟨rfl, rfl⟩
  · rw [if_neg c]
    have c1 : ¬ ix m.taken i = ((mineM m i).length : Int) := fun z => c (.inl z)
    have c2 : (ix m.lets (ix (mineM m i) (ix m.taken i))).here = true := by
      cases q : (ix m.lets (ix (mineM m i) (ix m.taken i))).here with
      | true => rfl
      | false => exact absurd (.inr q) c
    have hb : 0 ≤ ix m.taken i ∧ ix m.taken i < ((mineM m i).length : Int) := by omega
    have hl := mine_in (ix_inP hb)
    refine .inr ⟨_, rfl, h.he _ hl.1 hl.2 c2, h.ho, h.at_, h.ca, h.kn, h.se, h.nd, h.go, h.al, h.he, by show (z.taken.set _ _).length = _; rw [List.length_set]; exact h.tl, fun j h0 h1 => ?_, h.wr⟩
    show ix (z.taken.set i.toNat _) j = (mineM m j).take (ix (m.taken.set i.toNat _) j).toNat
    rw [ix_setI (by rw [h.tl]; exact hi) h0, ix_setI (by rw [s.mo.tk]; exact hi) h0]
    by_cases e : j = i
    · rw [if_pos e, if_pos e, e, ht, take_succI hb]
    · rw [if_neg e, if_neg e]
      exact h.tk j h0 h1
structure Hp41 (n : Int) (m m' : PMd) (z : S41) (q : Int × Int) (t : Int) (d : Dat) : Prop where
  sh : d = thereD ∨ ∃ y : Int, d = onD (some y)
  hops : (cp41 m' q).2 ≤ z.carried - t
  there : d = thereD → J41 n m' { z with going := z.going.del q, here := z.here.put q.1 true }
  on : d ≠ thereD → J41 n m' z ∧ (cp41 m q).1 + 1 ≤ (cp41 m' q).1
  lt : m'.lets.length = m.lets.length
  ln : (ix m'.lets q.1).cop.length = (ix m.lets q.1).cop.length
  rd : m'.road = m.road
  kn : m'.known = m.known
  oth : ∀ q', q' ≠ q → 0 ≤ q'.1 → 0 ≤ q'.2 → cp41 m' q' = cp41 m q'
  sz : ∀ T, Szs T m → Szs T m'
theorem on_there {x : Option Int} : onD x ≠ thereD := fun e => by
  injection e with e
  injection e with e _
  injection e with e
  exact absurd e (by decide +kernel)
theorem set_cp {k j : Int} {c : Int × Int} {b : Bool} {q' : Int × Int} (hk : 0 ≤ k ∧ k < (m.lets.length : Int)) (hj : 0 ≤ j ∧ j < ((ix m.lets k).cop.length : Int)) (h1 : 0 ≤ q'.1) (h2 : 0 ≤ q'.2) : cp41 (setL m k j c b) q' = if q' = (k, j) then c else cp41 m q' := by
  unfold cp41 setL
  dsimp only
  rw [ix_setI hk h1]
  by_cases e1 : q'.1 = k
  · rw [if_pos e1]
    dsimp only
    rw [ix_setI hj h2]
    by_cases e2 : q'.2 = j
    · rw [if_pos e2, if_pos (Prod.ext e1 e2)]
    · rw [if_neg e2, if_neg (fun z => e2 (by rw [z])), e1]
  · rw [if_neg e1, if_neg (fun z => e1 (by rw [z]))]
theorem set_len {k j : Int} {c : Int × Int} {b : Bool} {l : Int} (hk : 0 ≤ k ∧ k < (m.lets.length : Int)) (hl : 0 ≤ l) : (ix (setL m k j c b).lets l).cop.length = (ix m.lets l).cop.length := by
  unfold setL
  dsimp only
  rw [ix_setI hk hl]
  by_cases e : l = k
  · rw [if_pos e, e]
    exact List.length_set
  · rw [if_neg e]
theorem set_here {k j : Int} {c : Int × Int} {b : Bool} {l : Int} (hk : 0 ≤ k ∧ k < (m.lets.length : Int)) (hl : 0 ≤ l) : (ix (setL m k j c b).lets l).here = if l = k then b else (ix m.lets l).here := by
  unfold setL
  dsimp only
  rw [ix_setI hk hl]
  by_cases e : l = k
  · rw [if_pos e, if_pos e]
  · rw [if_neg e, if_neg e]
theorem set_szs {k j : Int} {c : Int × Int} {b : Bool} {T : Nat} (hk : 0 ≤ k ∧ k < (m.lets.length : Int)) (h : Szs T m) : Szs T (setL m k j c b) := by
  refine ⟨h.r, by unfold setL; dsimp only; rw [List.length_set]; exact h.l, fun x hx => ?_⟩
  unfold setL at hx
  rcases List.mem_or_eq_of_mem_set hx with hx | hx
  · exact h.c x hx
  · rw [hx]
    dsimp only
    rw [List.length_set]
    exact h.c _ (ix_inP hk)
theorem J41.hop (h : J41 n m z) (s : Sim n p m) {t : Int} (hq : z.going.get? q = some t) : ∃ d p' m', postHop p q.1 q.2 = .inr (d, p') ∧ Sim n p' m' ∧ Hp41 n m m' z q t d := by
  obtain ⟨hk, hj, hp, hh⟩ := h.go q t hq
  have hlt := s.mo.lt _ (ix_inP hk)
  have hcb := hlt.2.2.2 _ (ix_inP hj)
  have hse : ∀ (c : Int × Int) (b : Bool), z.sent = (setL m q.1 q.2 c b).lets.map Ltr.who := fun c b => by
    show z.sent = (m.lets.set _ _).map _
    rw [set_mapP, h.se]
    exact (set_ixP (by rw [List.length_map]; exact hk) (ix_map hk)).symm
  have hll : ∀ (c : Int × Int) (b : Bool), (setL m q.1 q.2 c b).lets.length = m.lets.length := fun c b => List.length_set ..
  have hmi : ∀ (c : Int × Int) (b : Bool) (j : Int), mineM (setL m q.1 q.2 c b) j = mineM m j := fun c b j => mine_set hk rfl
  rcases s.hop hk hj with ⟨h1, h2⟩ | ⟨d, p', m', h1, h2, h3⟩
  · unfold hopD at h2
    have hp : 0 ≤ (ix (ix m.lets q.1).cop q.2).1 := hp
    rw [if_neg (by omega)] at h2
    split at h2
    · injection h2 with a _; cases a
    · injection h2 with a _; cases a
  · refine ⟨d, p', m', h1, h3, ?_⟩
    have hp0 : 0 ≤ (ix (ix m.lets q.1).cop q.2).1 := hp
    have hh0 : (ix (ix m.lets q.1).cop q.2).2 ≤ (ix (ix m.lets q.1).cop q.2).1 - t := hh
    unfold hopD at h2
    rw [if_neg (by omega)] at h2
    have hca := h.ca
    by_cases c : ix m.road (ix (ix m.lets q.1).cop q.2).1 = lastI m.road
    · rw [if_pos c] at h2
      injection h2 with h4 h5
      subst h4 h5
      have ecp : ∀ q' : Int × Int, 0 ≤ q'.1 → 0 ≤ q'.2 → cp41 (setL m q.1 q.2 (-1, (ix (ix m.lets q.1).cop q.2).2) true) q' = if q' = q then (-1, (ix (ix m.lets q.1).cop q.2).2) else cp41 m q' := fun q' a b => set_cp hk hj a b
      refine ⟨.inl rfl, ?_, fun _ => ?_, fun z => absurd rfl z, hll _ _, set_len hk hk.1, rfl, rfl, fun q' a b1 b2 => by rw [ecp q' b1 b2, if_neg a], fun T h9 => set_szs hk h9⟩
      · rw [ecp q hk.1 hj.1, if_pos rfl]
        show (ix (ix m.lets q.1).cop q.2).2 ≤ _
        omega
      · refine ⟨h.ho, h.at_, h.ca, h.kn, hse _ _, dn_nd_del h.nd _, fun q' t' e => ?_, fun l l0 l1 => ?_, fun l l0 l1 e => ?_, h.tl, fun j h0 h1 => ?_, h.wr⟩
        · dsimp only at e
          rw [dn_get_del] at e
          by_cases e1 : q' = q
          · rw [if_pos e1] at e; cases e
          · rw [if_neg e1] at e
            obtain ⟨g1, g2, g3⟩ := h.go q' t' e
            rw [hll, set_len hk g1.1, ecp q' g1.1 g2.1, if_neg e1]
            exact ⟨g1, g2, g3⟩
        · rw [hll] at l1
          dsimp only
          rw [dn_get_del, set_here hk l0]
          by_cases e1 : l = q.1
          · right; rw [if_pos e1]
          · rw [if_neg (fun z => e1 (by rw [← z])), if_neg e1]
            exact h.al l l0 l1
        · rw [hll] at l1
          rw [set_here hk l0] at e
          dsimp only
          rw [Dct.get?_put]
          by_cases e1 : l = q.1
          · rw [if_pos e1]; rfl
          · rw [if_neg e1]
            rw [if_neg e1] at e
            exact h.he l l0 l1 e
        · rw [hmi]
          exact h.tk j h0 h1
    · rw [if_neg c] at h2
      injection h2 with h4 h5
      subst h4 h5
      have hb : 0 ≤ (ix (ix m.lets q.1).cop q.2).1 ∧ (ix (ix m.lets q.1).cop q.2).1 < (m.road.length : Int) := ⟨hp0, hcb⟩
      have ham := aw_max hb c
      rw [← awayM_eq] at ham
      have ecp : ∀ q' : Int × Int, 0 ≤ q'.1 → 0 ≤ q'.2 → cp41 (setL m q.1 q.2 (maxL (awayM m.road (ix m.road (ix (ix m.lets q.1).cop q.2).1)) + 1, (ix (ix m.lets q.1).cop q.2).2 + 1) (ix m.lets q.1).here) q' = if q' = q then (maxL (awayM m.road (ix m.road (ix (ix m.lets q.1).cop q.2).1)) + 1, (ix (ix m.lets q.1).cop q.2).2 + 1) else cp41 m q' := fun q' a b => set_cp hk hj a b
      refine ⟨.inr ⟨_, rfl⟩, ?_, fun z => absurd z on_there, fun _ => ⟨?_, ?_⟩, hll _ _, set_len hk hk.1, rfl, rfl, fun q' a b1 b2 => by rw [ecp q' b1 b2, if_neg a], fun T h9 => set_szs hk h9⟩
      · rw [ecp q hk.1 hj.1, if_pos rfl]
        show (ix (ix m.lets q.1).cop q.2).2 + 1 ≤ _
        omega
      · refine ⟨h.ho, h.at_, h.ca, h.kn, hse _ _, h.nd, fun q' t' e => ?_, fun l l0 l1 => ?_, fun l l0 l1 e => ?_, h.tl, fun j h0 h1 => ?_, h.wr⟩
        · obtain ⟨g1, g2, g3⟩ := h.go q' t' e
          rw [hll, set_len hk g1.1, ecp q' g1.1 g2.1]
          by_cases e1 : q' = q
          · subst e1
            rw [hq] at e
            cases e
            rw [if_pos rfl]
            refine ⟨g1, g2, by dsimp only; omega, by dsimp only; omega⟩
          · rw [if_neg e1]
            exact ⟨g1, g2, g3⟩
        · rw [hll] at l1
          rw [set_here hk l0]
          rcases h.al l l0 l1 with g | g
          · exact .inl g
          · right
            by_cases e1 : l = q.1
            · rw [if_pos e1]; rw [e1] at g; exact g
            · rw [if_neg e1]; exact g
        · rw [hll] at l1
          rw [set_here hk l0] at e
          refine h.he l l0 l1 ?_
          by_cases e1 : l = q.1
          · rw [if_pos e1] at e; rw [e1]; exact e
          · rw [if_neg e1] at e; exact e
        · rw [hmi]
          exact h.tk j h0 h1
      · rw [ecp q hk.1 hj.1, if_pos rfl]
        show (ix (ix m.lets q.1).cop q.2).1 + 1 ≤ maxL _ + 1
        omega
end
end GL
namespace GL
open PySem PySem.Spec PyProof.Rows L2
def delN (L : NL) (k : NKy) : NL := L.filter fun e => !decide (e.1 = k)
def rPopN (K : PySem.W.Frag) : V → List V → Hp → VK → Prop := fun x xs H Q => ∃ d b L k v, x = .ref d ∧ xs = [.ref b] ∧ NAt K H d L b k ∧ valN L k = some v ∧ Q v (upd H d (ndH d (delN L k)))
theorem NR.del {k : NKy} {L : NL} {xs : NV} (r : NR L xs) : NR (delN L k) (withoutH xs k) := by
  unfold delN withoutH
  induction r with
  | nil => exact .nil
  | @cons p q L xs h t ih =>
    rw [List.filter_cons, List.filter_cons]
    by_cases c : p.1 = k
    · have c2 : q.1 = k := h.1.symm.trans c
      rw [decide_eq_true c, if_neg (by decide), if_neg (by simp [c2])]
      exact ih
    · have c2 : ¬ q.1 = k := fun z => c (h.1.trans z)
      rw [decide_eq_false c, if_pos (by decide), if_pos (by simp [c2])]
      exact .cons h ih
section
variable {X : Cx}
theorem mt_popN (hu : X.A.units + 2 < cLine) : MtR X "dict.pop" (rPopN X.K) := by
  intro pins s σ H x xs v us Q I rx rs h
  obtain ⟨d, b, L, k, y, rfl, rfl, n, hv, q⟩ := h
  obtain rfl : v = Value.ref d := rx
  obtain ⟨u, rfl, ru⟩ := vals1 rs
  obtain rfl : u = Value.ref b := ru
  obtain ⟨z, hd, vs, rel, dd⟩ := nd_of I n.e n.ak
  obtain ⟨w', hw, rw'⟩ := RelO.some_of (v := y) (o := (atKey vs k).map (·.2)) (by rw [← hv]; exact rel.val k)
  obtain ⟨p, hp, hp2⟩ := Option.map_eq_some_iff.mp hw
  have hz : vs.length ≤ sizeLine := by rw [← Paired.length rel]; exact z
  refine call_pop_heap (knd := nkKind (intKind X.prog X.w) (k.map side)) (hsz := hz) (.inl rfl) (PySem.F.args_dict_pop_2 _ _) ?_ ⟨n.kb.at_ I, rfl⟩ hd dd hp fun h' dd' hs => ?_
  · exact hu
  · have he : ∃ q, h'.get? d = some q := let ⟨q, _, _, hq, _⟩ := dd'; ⟨q, hq⟩
    have hl' : (delN L k).length ≤ sizeLine := Nat.le_trans (List.length_filter_le ..) z
    rw [hp2]
    exact ⟨y, _, d_write I (by rw [n.e]; exact True.intro) hs he (nkd_ok hl' hd rel.del dd'), rw', q⟩
end
section
variable {α β : Type} [NKey α] [Py β] [DecidableEq α] {K : Fg} {S : Hp}
theorem RepN.del (k : α) : ∀ {L : NL} {xs : List (α × β)}, RepN K S L xs → RepN K S (delN L (NKey.key k)) (xs.filter fun e => !decide (e.1 = k))
  | [], [], _ => True.intro
  | e :: L, x :: xs, h => by
    have ih := RepN.del k h.2
    have ed : decide (e.1 = NKey.key k) = decide (x.1 = k) := by rw [h.1.1, key_dec]
    unfold delN at ih ⊢
    rw [List.filter_cons, List.filter_cons, ed]
    by_cases c : x.1 = k
    · rw [decide_eq_true c]
      exact ih
    · rw [decide_eq_false c]
      exact ⟨h.1, ih⟩
  | [], _ :: _, h => h.elim
  | _ :: _, [], h => h.elim
end
structure St41 where
  a : Addr
  ka : Addr
  sa : Addr
  ga : Addr
  ha : Addr
  ta : Addr
  tl : List Addr
  m : S41
def St41.fp (z : St41) : List Addr := z.a :: z.ka :: z.sa :: z.ga :: z.ha :: z.ta :: z.tl
def stK : List Key := [.inr "houses", .inr "at", .inr "known", .inr "carried", .inr "sent", .inr "going", .inr "here", .inr "taken", .inr "wrong"]
def stV (z : St41) : List V := [.int z.m.houses, .int z.m.place, .ref z.ka, .int z.m.carried, .ref z.sa, .ref z.ga, .ref z.ha, .ref z.ta, .bl z.m.wrong]
structure StAt (K : Fg) (S H : Hp) (z : St41) : Prop where
  ob : H z.a = some (.dK (stK.zip (stV z)))
  hk : H z.ka = some (.lst (z.m.known.map V.int))
  hs : H z.sa = some (.lst (z.m.sent.map V.int))
  hg : ∃ L, H z.ga = some (ndH z.ga L) ∧ RepN K S L z.m.going.l
  hh : ∃ kvs, H z.ha = some (.dK kvs) ∧ RepD K S kvs z.m.here.l
  ht : H z.ta = some (.lst (z.tl.map V.ref))
  ll : z.tl.length = z.m.taken.length
  hl : ∀ (j : Nat) (b : Addr) (xs : List Int), z.tl[j]? = some b → z.m.taken[j]? = some xs → H b = some (.lst (xs.map V.int))
  nd : z.fp.Nodup
structure Ne41 (z : St41) : Prop where
  ka : z.ka ≠ z.a
  sa : z.sa ≠ z.a
  ga : z.ga ≠ z.a
  ha : z.ha ≠ z.a
  ta : z.ta ≠ z.a
  sk : z.sa ≠ z.ka
  gk : z.ga ≠ z.ka
  hk : z.ha ≠ z.ka
  tk : z.ta ≠ z.ka
  gs : z.ga ≠ z.sa
  hs : z.ha ≠ z.sa
  ts : z.ta ≠ z.sa
  hg : z.ha ≠ z.ga
  tg : z.ta ≠ z.ga
  th : z.ta ≠ z.ha
  l : ∀ b ∈ z.tl, b ≠ z.a ∧ b ≠ z.ka ∧ b ≠ z.sa ∧ b ≠ z.ga ∧ b ≠ z.ha ∧ b ≠ z.ta
  n : z.tl.Nodup
section
variable {K : Fg} {S S' H H' : Hp} {z z' : St41}
theorem ne41 (h : z.fp.Nodup) : Ne41 z := by
  unfold St41.fp at h
  simp only [List.nodup_cons, List.mem_cons, not_or] at h
  obtain ⟨⟨a1, a2, a3, a4, a5, a6⟩, ⟨b1, b2, b3, b4, b5⟩, ⟨c1, c2, c3, c4⟩, ⟨d1, d2, d3⟩, ⟨e1, e2⟩, f1, g⟩ := h
  exact ⟨fun e => a1 e.symm, fun e => a2 e.symm, fun e => a3 e.symm, fun e => a4 e.symm, fun e => a5 e.symm, fun e => b1 e.symm, fun e => b2 e.symm, fun e => b3 e.symm, fun e => b4 e.symm, fun e => c1 e.symm, fun e => c2 e.symm, fun e => c3 e.symm, fun e => d1 e.symm, fun e => d2 e.symm, fun e => e1 e.symm,
    fun b hb => ⟨fun e => a6 (e ▸ hb), fun e => b5 (e ▸ hb), fun e => c4 (e ▸ hb), fun e => d3 (e ▸ hb), fun e => e2 (e ▸ hb), fun e => f1 (e ▸ hb)⟩, g⟩
theorem fp41 {q : Addr} : q ∈ z.fp ↔ q = z.a ∨ q = z.ka ∨ q = z.sa ∨ q = z.ga ∨ q = z.ha ∨ q = z.ta ∨ q ∈ z.tl := by unfold St41.fp; simp only [List.mem_cons]
theorem StAt.mono (c : StAt K S H z) (e : Same S S') (h : ∀ p ∈ z.fp, H' p = H p) : StAt K S' H' z := by
  obtain ⟨L, g1, g2⟩ := c.hg
  obtain ⟨kvs, k1, k2⟩ := c.hh
  exact ⟨by rw [h _ (fp41.mpr (.inl rfl))]; exact c.ob, by rw [h _ (fp41.mpr (.inr (.inl rfl)))]; exact c.hk, by rw [h _ (fp41.mpr (.inr (.inr (.inl rfl))))]; exact c.hs, ⟨L, by rw [h _ (fp41.mpr (.inr (.inr (.inr (.inl rfl)))))]; exact g1, g2.mono e⟩, ⟨kvs, by rw [h _ (fp41.mpr (.inr (.inr (.inr (.inr (.inl rfl))))))]; exact k1, k2.mono e⟩,
    by rw [h _ (fp41.mpr (.inr (.inr (.inr (.inr (.inr (.inl rfl)))))))]; exact c.ht, c.ll, fun j b xs h1 h2 => by rw [h _ (fp41.mpr (.inr (.inr (.inr (.inr (.inr (.inr (List.mem_of_getElem? h1))))))))]; exact c.hl j b xs h1 h2, c.nd⟩
instance : Own St41 := ⟨fun K S H v ps z => v = .ref z.a ∧ ps = z.fp ∧ StAt K S H z, fun {K S S' H H' v ps x} e a ⟨h1, h2, c⟩ => ⟨h1, h2, c.mono e (by rw [← h2]; exact a)⟩⟩
instance : Anch St41 := ⟨fun z => (.ref z.a, z.fp), fun ⟨h1, h2, _⟩ => by rw [h1, h2]⟩
instance : Rad St41 := ⟨fun z => z.a, fun ⟨h1, _⟩ => h1⟩
theorem StAt.som (c : StAt K S H z) {q : Addr} (h : q ∈ z.fp) : ∃ o, H q = some o := by
  rcases fp41.mp h with e | e | e | e | e | e | e
  · rw [e]; exact ⟨_, c.ob⟩
  · rw [e]; exact ⟨_, c.hk⟩
  · rw [e]; exact ⟨_, c.hs⟩
  · obtain ⟨L, g, _⟩ := c.hg
    rw [e]; exact ⟨_, g⟩
  · obtain ⟨L, g, _⟩ := c.hh
    rw [e]; exact ⟨_, g⟩
  · rw [e]; exact ⟨_, c.ht⟩
  · obtain ⟨j, hj⟩ := List.getElem?_of_mem e
    have lt := (List.getElem?_eq_some_iff.mp hj).1
    rw [c.ll] at lt
    exact ⟨_, c.hl j q _ hj (List.getElem?_eq_getElem lt)⟩
theorem stK_nd : stK.Nodup := by decide +kernel
theorem stV_len : stK.length = (stV z).length := rfl
theorem StAt.set {f : Str} {y : V} {n : Nat} {m' : S41} (c : StAt K S H z) (hn : kIx (.inr f) stK = n) (hl : n < 9) (e : (stV z).set n y = stV { z with m := m' }) (h1 : m'.known = z.m.known) (h2 : m'.sent = z.m.sent) (h3 : m'.going = z.m.going) (h4 : m'.here = z.m.here) (h5 : m'.taken = z.m.taken) :
    StAt K S (upd H z.a (.dK (putK (stK.zip (stV z)) (.inr f) y))) { z with m := m' } := by
  have ne := ne41 c.nd
  refine ⟨?_, ?_, ?_, ?_, ?_, ?_, ?_, ?_, c.nd⟩
  · rw [upd_same, putK_zip stK_nd hn hl stV_len, e]
  · rw [upd_ne ne.ka]; dsimp only; rw [h1]; exact c.hk
  · rw [upd_ne ne.sa]; dsimp only; rw [h2]; exact c.hs
  · obtain ⟨L, g1, g2⟩ := c.hg
    exact ⟨L, by rw [upd_ne ne.ga]; exact g1, by dsimp only; rw [h3]; exact g2⟩
  · obtain ⟨L, g1, g2⟩ := c.hh
    exact ⟨L, by rw [upd_ne ne.ha]; exact g1, by dsimp only; rw [h4]; exact g2⟩
  · rw [upd_ne ne.ta]; exact c.ht
  · dsimp only; rw [h5]; exact c.ll
  · intro j b xs g1 g2
    dsimp only at g2
    rw [h5] at g2
    rw [upd_ne (ne.l b (List.mem_of_getElem? g1)).1]
    exact c.hl j b xs g1 g2
theorem StAt.setK {l : List Int} (c : StAt K S H z) : StAt K S (upd H z.ka (.lst (l.map V.int))) { z with m := { z.m with known := l } } := by
  have ne := ne41 c.nd
  obtain ⟨L, g1, g2⟩ := c.hg
  obtain ⟨M, m1, m2⟩ := c.hh
  exact ⟨by rw [upd_ne ne.ka.symm]; exact c.ob, upd_same, by rw [upd_ne ne.sk]; exact c.hs, ⟨L, by rw [upd_ne ne.gk]; exact g1, g2⟩, ⟨M, by rw [upd_ne ne.hk]; exact m1, m2⟩, by rw [upd_ne ne.tk]; exact c.ht, c.ll, fun j b xs h1 h2 => by rw [upd_ne (ne.l b (List.mem_of_getElem? h1)).2.1]; exact c.hl j b xs h1 h2, c.nd⟩
theorem StAt.setS {l : List Int} (c : StAt K S H z) : StAt K S (upd H z.sa (.lst (l.map V.int))) { z with m := { z.m with sent := l } } := by
  have ne := ne41 c.nd
  obtain ⟨L, g1, g2⟩ := c.hg
  obtain ⟨M, m1, m2⟩ := c.hh
  exact ⟨by rw [upd_ne ne.sa.symm]; exact c.ob, by rw [upd_ne ne.sk.symm]; exact c.hk, upd_same, ⟨L, by rw [upd_ne ne.gs]; exact g1, g2⟩, ⟨M, by rw [upd_ne ne.hs]; exact m1, m2⟩, by rw [upd_ne ne.ts]; exact c.ht, c.ll, fun j b xs h1 h2 => by rw [upd_ne (ne.l b (List.mem_of_getElem? h1)).2.2.1]; exact c.hl j b xs h1 h2, c.nd⟩
theorem StAt.setG {d : DN (Int × Int) Int} {L : NL} (c : StAt K S H z) (r : RepN K S L d.l) : StAt K S (upd H z.ga (ndH z.ga L)) { z with m := { z.m with going := d } } := by
  have ne := ne41 c.nd
  obtain ⟨M, m1, m2⟩ := c.hh
  exact ⟨by rw [upd_ne ne.ga.symm]; exact c.ob, by rw [upd_ne ne.gk.symm]; exact c.hk, by rw [upd_ne ne.gs.symm]; exact c.hs, ⟨L, upd_same, r⟩, ⟨M, by rw [upd_ne ne.hg]; exact m1, m2⟩, by rw [upd_ne ne.tg]; exact c.ht, c.ll, fun j b xs h1 h2 => by rw [upd_ne (ne.l b (List.mem_of_getElem? h1)).2.2.2.1]; exact c.hl j b xs h1 h2, c.nd⟩
theorem StAt.setH {d : Dct Bool} {kvs : List (Key × V)} (c : StAt K S H z) (r : RepD K S kvs d.l) : StAt K S (upd H z.ha (.dK kvs)) { z with m := { z.m with here := d } } := by
  have ne := ne41 c.nd
  obtain ⟨L, g1, g2⟩ := c.hg
  exact ⟨by rw [upd_ne ne.ha.symm]; exact c.ob, by rw [upd_ne ne.hk.symm]; exact c.hk, by rw [upd_ne ne.hs.symm]; exact c.hs, ⟨L, by rw [upd_ne ne.hg.symm]; exact g1, g2⟩, ⟨kvs, upd_same, r⟩, by rw [upd_ne ne.th]; exact c.ht, c.ll, fun j b xs h1 h2 => by rw [upd_ne (ne.l b (List.mem_of_getElem? h1)).2.2.2.2.1]; exact c.hl j b xs h1 h2, c.nd⟩
theorem StAt.setT {j : Nat} {b : Addr} {l : List Int} (c : StAt K S H z) (hj : z.tl[j]? = some b) : StAt K S (upd H b (.lst (l.map V.int))) { z with m := { z.m with taken := z.m.taken.set j l } } := by
  have ne := ne41 c.nd
  have hb := ne.l b (List.mem_of_getElem? hj)
  obtain ⟨L, g1, g2⟩ := c.hg
  obtain ⟨M, m1, m2⟩ := c.hh
  refine ⟨by rw [upd_ne hb.1.symm]; exact c.ob, by rw [upd_ne hb.2.1.symm]; exact c.hk, by rw [upd_ne hb.2.2.1.symm]; exact c.hs, ⟨L, by rw [upd_ne hb.2.2.2.1.symm]; exact g1, g2⟩, ⟨M, by rw [upd_ne hb.2.2.2.2.1.symm]; exact m1, m2⟩, by rw [upd_ne hb.2.2.2.2.2.symm]; exact c.ht, by dsimp only; rw [List.length_set]; exact c.ll, fun i b' xs h1 h2 => ?_, c.nd⟩
  dsimp only at h1 h2
  by_cases e : i = j
  · subst e
    rw [hj] at h1
    cases h1
    have lt := (List.getElem?_eq_some_iff.mp h2).1
    rw [List.length_set] at lt
    rw [List.getElem?_set_self lt] at h2
    cases h2
    exact upd_same
  · rw [List.getElem?_set_ne (fun q => e q.symm)] at h2
    have nb : b' ≠ b := fun q => e (by
      subst q
      exact (List.getElem?_inj ((List.getElem?_eq_some_iff.mp h1).1) ne.n).mp (h1.trans hj.symm))
    rw [upd_ne nb]
    exact c.hl i b' xs h1 h2
end
end GL
namespace GL
open PySem PySem.Spec PyProof.Rows L2
section
variable {α β γ : Type} [Py α] [Py β] [Py γ] [ToD α] [ToD β] [ToD γ] {k : Nat}
end
end GL
namespace L2
open PySem PySem.Spec PyProof.Rows
def rEqTN (K : PySem.W.Frag) : R2 := fun x y H Q => ∃ p q xs, x = .ref p ∧ y = .ref q ∧ SqT K H p xs ∧ SqT K H q [] ∧ Q (.bl xs.isEmpty) H
def rInK (K : PySem.W.Frag) (w : World) (b : Bool) : R2 := fun x y H Q => ∃ d es n z r, KDict K w d es n ∧ x = .str z ∧ y = .ref d ∧ PySem.W.nsIn K d z = some r ∧ Q (.bl (b != r.isSome)) H
end L2
namespace GL
open PySem PySem.Spec PyProof.Rows L2
namespace Dat
def toS : Dat → Str
  | .str s => s
  | _ => Str.empty
end Dat
structure TD where
  l : List (Str × Int)
def TD.kv (d : TD) : List (Key × V) := d.l.map fun kv => (Sum.inr kv.1, V.int kv.2)
instance : Py TD := ⟨fun K S v d => ∃ p, v = .ref p ∧ S p = some (.dK d.kv), fun e ⟨p, h1, h2⟩ => ⟨p, h1, e _ _ h2⟩⟩
def TD.get? (d : TD) (s : Str) : Option Int := (d.l.find? fun kv => decide (kv.1 = s)).map (·.2)
theorem TD.val (s : Str) : ∀ l : List (Str × Int), valV (l.map fun kv => ((Sum.inr kv.1 : Key), V.int kv.2)) (Sum.inr s) = ((l.find? fun kv => decide (kv.1 = s)).map (·.2)).map V.int
  | [] => rfl
  | kv :: l => by
    rw [List.map_cons, List.find?_cons]
    by_cases e : kv.1 = s
    · rw [decide_eq_true e, valV_pos (by show (Sum.inr kv.1 : Key) = Sum.inr s; rw [e])]
      rfl
    · rw [decide_eq_false e, valV_neg (by intro q; exact e (Sum.inr.inj q))]
      exact TD.val s l
section
variable {K : Fg} {B S0 S1 S S' D : Hp} {σ : L2.St} {H H' : Hp} {F : Nat → List Addr} {G G' G1 G2 G3 : List Sl} {ta tb tc te : TE} {i j : Nat} {t u w : TS} {E : Ends}
def partsK : List (Str × List Str) := [("set", ["sheet", "number"]), ("add", ["sheet", "sheet"]), ("jump", ["sheet", "row"]), ("say", ["sheet"]), ("take", ["sheet"]), ("end", [])]
def partsM (s : Str) : Option (List Str) := (partsK.find? fun kv => decide (kv.1 = s)).map (·.2)
def KParts (K : Fg) (w : World) (mg : Str → Option Value) (x : Str) : Prop := ∃ d es n, mg x = some (.ref d) ∧ KDict K w d es n ∧ (∀ s, partsM s = none → PySem.W.nsIn K d s = some none) ∧ ∀ s l, partsM s = some l → ∃ u, PySem.W.nsIn K d s = some (some (.ref u)) ∧ KTup K u (l.map V.str)
variable {w : World} {mg : Str → Option Value} {x : Str}
def rAddS : R2 := fun x y H Q => ∃ i j, x = .str i ∧ y = .str j ∧ i.length + j.length ≤ sizeLine ∧ Q (.str (i ++ j)) H
def rStrI : List V → Hp → VK → Prop := fun xs H Q => ∃ i, xs = [.int i] ∧ i.natAbs.log2 < 1920 ∧ Q (.str (toString i)) H
def rUpS : V → List V → Hp → VK → Prop := fun x xs H Q => ∃ a, x = .str a ∧ xs = [] ∧ a.length ≤ 5592405 ∧ Q (.str (Txt.upper a)) H
end
end GL
namespace GL
open PySem PySem.Spec PyProof.Rows L2
section
variable {K : Fg} {G G1 : List Sl} {ta tb : TE} {w : World} {mg : Str → Option Value} {x : Str}
end
end GL
namespace RZm
open PySem
section
variable {prog : Program} {w : World} {A : Around} {E : Value → Shared → Prop} {s : Shared}
abbrev mH1 (h : Heap) (a : Addr) : Heap := h.push { cls := .type "list_iterator", data := .fields #[.ref a, .int 0 0] }
abbrev mH2 (h : Heap) (a b : Addr) : Heap := (mH1 h a).push { cls := .type "tuple_iterator", data := .fields #[.ref b, .int 0 0] }
abbrev mH3 (h : Heap) (a b : Addr) : Heap := (mH2 h a b).push { cls := .type "tuple", data := .seq #[.ref h.objs.size, .ref (mH1 h a).objs.size] }
abbrev mH4 (h : Heap) (a b : Addr) : Heap := (mH3 h a b).push { cls := .type "tuple", data := .seq #[.none, .none] }
abbrev mH5 (h : Heap) (a b : Addr) : Heap := (mH4 h a b).push { cls := .type "zip", data := .fields #[.none, .bool false, .bool false, .ref (mH2 h a b).objs.size, .ref (mH3 h a b).objs.size] }
end
end RZm
namespace L2
open PySem PySem.Spec PyProof.Rows
def ItLT (K : PySem.W.Frag) (a b : Addr) : It :=
  ⟨fun i H => ∃ (us vs : List V) (x y : V), SqL K H a us ∧ SqT K H b vs ∧ us[i]? = some x ∧ vs[i]? = some y,
    fun i H v H' => ∃ N x y, v = .ref N ∧ H N = none ∧ H' = upd H N (.tup [x, y]) ∧ (∀ us, SqL K H a us → us[i]? = some x) ∧ ∀ vs, SqT K H b vs → vs[i]? = some y,
    fun i H => ∃ us vs : List V, SqL K H a us ∧ SqT K H b vs ∧ (us.length ≤ i ∨ vs.length ≤ i)⟩
def iZipM (K : PySem.W.Frag) (ta : TA) : TI := fun σ H R => ta σ H fun ws H1 => ∃ a b us vs, ws = [.ref a, .ref b] ∧ SqL K H1 a us ∧ SqT K H1 b vs ∧ R (ItLT K a b) H1
end L2
namespace GL
open PySem PySem.Spec PyProof.Rows L2
section
variable {K : Fg} {B S0 S1 S S' D : Hp} {σ : L2.St} {H H' : Hp} {F : Nat → List Addr} {G G' G1 G2 G3 : List Sl} {ta tb tc te : TE}
end
end GL
namespace PySem.SeqAt
open AutoSeq1 (wpAny_loadPart')
open MeetsSeq MeetsSeq2 MeetsSeq3 SeqRoads2
section
variable {prog : Program} {w : World}
end
end PySem.SeqAt
namespace L2
open PySem PySem.Spec PyProof.Rows
def rEqNl (K : PySem.W.Frag) : R2 := fun x y H Q => ∃ p q xs, x = .ref p ∧ y = .ref q ∧ SqL K H p xs ∧ SqL K H q [] ∧ Q (.bl xs.isEmpty) H
def rLenX : List V → Hp → VK → Prop := fun xs H Q => ∃ z, xs = [.str z] ∧ z.length ≤ sizeLine ∧ Q (.int z.length) H
def inS (i j : Str) : Bool := !(Builtin.Str.occurrences j i 0 j.length 1).isEmpty
def rNinS : R2 := fun x y H Q => ∃ i j, x = .str i ∧ y = .str j ∧ Q (.bl (!inS i j)) H
def rInS : R2 := fun x y H Q => ∃ i j, x = .str i ∧ y = .str j ∧ Q (.bl (inS i j)) H
def rIntX : List V → Hp → VK → Prop := fun xs H Q => ∃ a n, xs = [.str a] ∧ PySem.intText? a = some n ∧ a.length ≤ 640 ∧ Q (.int n) H
def rSplitS : V → List V → Hp → VK → Prop := fun x xs H Q => ∃ a b, x = .str a ∧ xs = [.str b] ∧ (b.length == 0) = false ∧ a.length + 2 ≤ sizeLine ∧ rNewStrs (Txt.split a b) H Q
def rJoinS (K : PySem.W.Frag) : V → List V → Hp → VK → Prop := fun x xs H Q => ∃ a p, ∃ ys : List Str, x = .str a ∧ xs = [.ref p] ∧ (SqL K H p (ys.map V.str) ∨ SqT K H p (ys.map V.str)) ∧
    (ys.map (·.length)).sum + ys.length * a.length ≤ 16777216 ∧ Q (.str (Txt.join a ys)) H
def rStrD : List V → Hp → VK → Prop := fun xs H Q => (∃ a, xs = [.str a] ∧ Q (.str a) H) ∨ (∃ i, xs = [.int i] ∧ i.natAbs.log2 < 1920 ∧ Q (.str (toString i)) H)
end L2
namespace GL
open PySem PySem.Spec PyProof.Rows L2
def signs (a : Str) : List Str := a.cps.toList.map fun c => (⟨#[c]⟩ : Str)
def partT : Dat → Str
  | .int n => Str.ofString (toString n)
  | .str s => s
  | _ => Str.empty
def TxtOk : Dat → Prop
  | .int n => n.natAbs.log2 < 1920
  | .str _ => True
  | _ => False
section
variable {K : Fg} {B S0 S1 S S' D : Hp} {σ : L2.St} {H H' : Hp} {F : Nat → List Addr} {G G' G1 G2 G3 : List Sl} {ta tb tc te : TE} {i j : Nat} {t u w : TS} {E : Ends}
def NoneOk (xs : List Dat) : Prop := ∀ d ∈ xs, d.isN = true ∨ d.isInt = true
end
end GL
namespace PySem.SeqAt
open AutoSeq1 (wpAny_loadPart')
open MeetsSeq MeetsSeq2 MeetsSeq3 SeqRoads2
section
variable {prog : Program} {w : World}
end
end PySem.SeqAt
namespace L2
open PySem PySem.Spec PyProof.Rows
def rNeNl (K : PySem.W.Frag) : R2 := fun x y H Q => ∃ p q xs, x = .ref p ∧ y = .ref q ∧ SqL K H p xs ∧ SqL K H q [] ∧ Q (.bl (!xs.isEmpty)) H
end L2
namespace GL
open PySem PySem.Spec PyProof.Rows L2
end GL
namespace GL
open PySem PySem.Spec PyProof.Rows L2
section
variable {K : Fg} {B S0 S1 S S' D : Hp} {σ : L2.St} {H H' : Hp} {F : Nat → List Addr} {G G' G1 G2 G3 : List Sl} {ta tb tc td te : TE} {i j l : Nat} {t u : TS} {E : Ends} {z z' : St41}
theorem st_at (k : Kn K B S0 S σ H F G) (hi : G[i]? = some (.ow z)) : σ[i]? = some (some (.ref z.a)) ∧ F i = z.fp ∧ StAt K S H z := by
  obtain ⟨v, h1, h2, h3, h4⟩ := k.ow hi
  exact ⟨by rw [h1, h2], h3, h4⟩
theorem st_upd (k : Kn K B S0 S σ H F G) (hi : G[i]? = some (.ow z)) (c : StAt K S H' z') (hf : z'.fp = z.fp) (h : ∀ q, q ∉ z.fp → H' q = H q) : Kn K B S0 S σ H' F (G.set i (.ow z')) := by
  obtain ⟨h1, h2, _⟩ := st_at k hi
  have ha : z'.a = z.a := by
    have := hf
    unfold St41.fp at this
    exact (List.cons.inj this).1
  exact k.mut h1 (fun q hq => h q (by rw [← h2]; exact hq)) (fun q hq => c.som (by rw [hf, ← h2]; exact hq)) ⟨by rw [ha], by rw [h2, hf], c⟩
theorem st_get {f : Str} (n : Nat) {v : V} {Q : VK} (hn : kIx (.inr f) stK = n) (hl : n < 9) (k : Kn K B S0 S σ H F G) (hi : G[i]? = some (.ow z)) (hv : (stV z)[n]? = some v) (q : Q v H) : tDGet (tVar i) (tC (.str f)) σ H Q := by
  obtain ⟨h1, h2, c⟩ := st_at k hi
  have h := DGet.k (k := .inr f) c.ob
  rw [val_zip hn hl hv] at h
  exact ⟨.ref z.a, h1, z.a, v, rfl, h, q⟩
theorem ev_st {α : Type} [Py α] {x : α} {f : Str} (n : Nat) {v : V} (hn : kIx (.inr f) stK = n) (hl : n < 9) (hi : G[i]? = some (.ow z)) (hv : (stV z)[n]? = some v) (h : ∀ {S : Hp}, Py.rep K S v x) : EvX K (tDGet (tVar i) (tC (.str f))) G x G := fun B S0 S σ H F k Q q =>
  st_get n hn hl k hi hv (q v S H (Same.refl _) k h)
theorem sr_houses (hi : G[i]? = some (.ow z)) : EvX K (tDGet (tVar i) (tC (.str "houses"))) G z.m.houses G := ev_st 0 (by decide +kernel) (by decide) hi rfl rfl
theorem sr_at (hi : G[i]? = some (.ow z)) : EvX K (tDGet (tVar i) (tC (.str "at"))) G z.m.place G := ev_st 1 (by decide +kernel) (by decide) hi rfl rfl
theorem sr_carried (hi : G[i]? = some (.ow z)) : EvX K (tDGet (tVar i) (tC (.str "carried"))) G z.m.carried G := ev_st 3 (by decide +kernel) (by decide) hi rfl rfl
theorem sr_wrong (hi : G[i]? = some (.ow z)) : EvX K (tDGet (tVar i) (tC (.str "wrong"))) G z.m.wrong G := ev_st 8 (by decide +kernel) (by decide) hi rfl rfl
theorem q_st {α : Type} [Py α] {x : α} {f : Str} (n : Nat) (m' : S41) (hn : kIx (.inr f) stK = n) (hl : n < 9) (h : EvX K te G x G1) (hi : G1[i]? = some (.ow z)) (h1 : m'.known = z.m.known) (h2 : m'.sent = z.m.sent) (h3 : m'.going = z.m.going) (h4 : m'.here = z.m.here) (h5 : m'.taken = z.m.taken)
    (step : ∀ {S : Hp} {v : V}, Py.rep K S v x → (stV z).set n v = stV { z with m := m' }) (k : At K B S0 (u E) (G1.set i (.ow { z with m := m' }))) : At K B S0 (tSeq (sDPut (tVar i) (tC (.str f)) te) u E) G := fun S σ H F kn =>
  h B S0 S σ H F kn _ fun v S1 H1 e1 k1 r1 => by
    obtain ⟨g1, g2, c⟩ := st_at k1 hi
    exact ⟨.ref z.a, g1, z.a, _, rfl, DPut.k (k := .inr f) (v := v) c.ob (by rw [List.length_zip]; show min 9 9 < sizeLine; decide), k S1 σ _ F (st_upd k1 hi (c.set hn hl (step r1) h1 h2 h3 h4 h5) rfl fun q hq => upd_ne fun e => hq (by rw [e]; exact fp41.mpr (.inl rfl)))⟩
theorem qs_at {x : Int} (h : EvX K te G x G1) (hi : G1[i]? = some (.ow z)) (k : At K B S0 (u E) (G1.set i (.ow { z with m := { z.m with place := x } }))) : At K B S0 (tSeq (sDPut (tVar i) (tC (.str "at")) te) u E) G :=
  q_st 1 { z.m with place := x } (by decide +kernel) (by decide) h hi rfl rfl rfl rfl rfl (fun r => by rw [show _ = V.int x from r]; rfl) k
theorem qs_carried {x : Int} (h : EvX K te G x G1) (hi : G1[i]? = some (.ow z)) (k : At K B S0 (u E) (G1.set i (.ow { z with m := { z.m with carried := x } }))) : At K B S0 (tSeq (sDPut (tVar i) (tC (.str "carried")) te) u E) G :=
  q_st 3 { z.m with carried := x } (by decide +kernel) (by decide) h hi rfl rfl rfl rfl rfl (fun r => by rw [show _ = V.int x from r]; rfl) k
def EvF (K : Fg) (te : TE) (G : List Sl) (i : Nat) (z : St41) (p : Addr) (xs : List Int) : Prop := G[i]? = some (.ow z) ∧ (∀ {K : Fg} {S H : Hp}, StAt K S H z → H p = some (.lst (xs.map V.int))) ∧
  ∀ B S0 S σ H F, Kn K B S0 S σ H F G → ∀ Q : VK, (∀ S' H', Same S S' → Kn K B S0 S' σ H' F G → Q (.ref p) H') → te σ H Q
theorem ef_known (hi : G[i]? = some (.ow z)) : EvF K (tDGet (tVar i) (tC (.str "known"))) G i z z.ka z.m.known := ⟨hi, fun c => c.hk, fun B S0 S σ H F k Q q => st_get 2 (by decide +kernel) (by decide) k hi rfl (q S H (Same.refl _) k)⟩
theorem ef_sent (hi : G[i]? = some (.ow z)) : EvF K (tDGet (tVar i) (tC (.str "sent"))) G i z z.sa z.m.sent := ⟨hi, fun c => c.hs, fun B S0 S σ H F k Q q => st_get 4 (by decide +kernel) (by decide) k hi rfl (q S H (Same.refl _) k)⟩
def tAt (z : St41) (n : Int) : Addr := (z.tl[n.toNat]?).getD 0
theorem tl_at (c : StAt K S H z) {n : Int} (hn : 0 ≤ n ∧ n < (z.m.taken.length : Int)) : z.tl[n.toNat]? = some (tAt z n) ∧ H (tAt z n) = some (.lst ((ix z.m.taken n).map V.int)) := by
  have hl := c.ll
  have h1 : z.tl[n.toNat]? = some (tAt z n) := by
    unfold tAt
    rw [List.getElem?_eq_getElem (by omega)]
    rfl
  exact ⟨h1, c.hl _ _ _ h1 (ix_at hn.1 hn.2)⟩
theorem ef_taken {n : Int} (hi : G[i]? = some (.ow z)) (hb : EvX K tb G n G) (hn : 0 ≤ n ∧ n < (z.m.taken.length : Int)) : EvF K (tOp (rIxL K) (tDGet (tVar i) (tC (.str "taken"))) tb) G i z (tAt z n) (ix z.m.taken n) :=
  ⟨hi, fun c => (tl_at c hn).2, fun B S0 S σ H F k Q q => st_get 7 (by decide +kernel) (by decide) k hi rfl (hb B S0 S σ H F k _ fun v S1 H1 e1 k1 r1 => by
    obtain ⟨_, _, c⟩ := st_at k1 hi
    exact ⟨z.ta, _, n, _, rfl, r1, SqL.of c.ht, atI_of hn.1 (by rw [List.getElem?_map, (tl_at c hn).1]; rfl), q S1 H1 e1 k1⟩)⟩
section
variable {p : Addr} {xs : List Int}
theorem ev_lenF (h : EvF K te G i z p xs) : EvX K (tCB (rLenS K) (tCons te tNil)) G (xs.length : Int) G := fun B S0 S σ H F k Q q => h.2.2 B S0 S σ H F k _ fun S1 H1 e1 k1 => by
  obtain ⟨_, _, c⟩ := st_at k1 h.1
  exact ⟨p, _, rfl, .inl (SqL.of (h.2.1 c)), q _ S1 H1 e1 k1 (by rw [List.length_map]; rfl)⟩
theorem ev_ixF {n : Int} (h : EvF K te G i z p xs) (hb : EvX K tb G n G1) (hi : G1[i]? = some (.ow z)) (hn : 0 ≤ n ∧ n < (xs.length : Int)) : EvX K (tOp (rIxL K) te tb) G (ix xs n) G1 := fun B S0 S σ H F k Q q => h.2.2 B S0 S σ H F k _ fun S1 H1 e1 k1 =>
  hb B S0 S1 σ H1 F k1 _ fun v S2 H2 e2 k2 r2 => by
    obtain ⟨_, _, c⟩ := st_at k2 hi
    exact ⟨p, _, n, .int (ix xs n), rfl, r2, SqL.of (h.2.1 c), atI_of hn.1 (by rw [List.getElem?_map, ix_at hn.1 hn.2]; rfl), q _ S2 H2 (e1.trans e2) k2 rfl⟩
theorem ev_eqNilF (h : EvF K te G i z p xs) : EvX K (tOp (rEqNil K) te (tLst tNil)) G xs.isEmpty G := fun B S0 S σ H F k Q q => h.2.2 B S0 S σ H F k _ fun S1 H1 e1 k1 => ⟨by show 0 ≤ sizeLine; decide, fun a ha => by
  obtain ⟨_, _, c⟩ := st_at k1 h.1
  have h1 := h.2.1 c
  have hv : upd H1 a (.lst []) p = some (.lst (xs.map V.int)) := by rw [upd_ne (ne_of_none h1 ha)]; exact h1
  refine ⟨p, a, _, rfl, rfl, SqL.of hv, SqL.of upd_same, q _ S1 _ e1 (k1.raw ha) ?_⟩
  cases xs <;> rfl⟩
theorem ev_neF {ys : List Int} (h : EvF K te G i z p xs) (hb : EvX K tb G ys G) : EvX K (tOp (rNeD K) te tb) G (!decide (xs = ys)) G := fun B S0 S σ H F k Q q => h.2.2 B S0 S σ H F k _ fun S1 H1 e1 k1 => hb B S0 S1 σ H1 F k1 _ fun w S2 H2 e2 k2 r2 => by
  obtain ⟨_, _, c⟩ := st_at k2 h.1
  have hx : Py.rep K H2 (.ref p) xs := ⟨p, _, rfl, h.2.1 c, by
    have : ∀ l : List Int, RepL K H2 (l.map V.int) l := fun l => by
      induction l with
      | nil => exact True.intro
      | cons a l ih => exact ⟨rfl, ih⟩
    exact this xs⟩
  exact ⟨_, _, Dt.dp (Same.refl _) hx, Dt.dp k2.sub r2, shapedD (by decide) xs, shapedD (by decide) ys, q _ S2 H2 (e1.trans e2) k2 (by rw [eqvD]; rfl)⟩
theorem q_appF {x : Int} {z' : St41} (h : EvF K ta G i z p xs) (he : EvX K te G x G) (hz : xs.length < sizeLine) (hf : z'.fp = z.fp) (hp : p ∈ z.fp) (step : ∀ {S H : Hp}, StAt K S H z → StAt K S (upd H p (.lst ((xs ++ [x]).map V.int))) z')
    (k : At K B S0 (u E) (G.set i (.ow z'))) : At K B S0 (tSeq (tDrop (tBM K "list" rAppend ta (tCons te tNil))) u E) G := fun S σ H F kn => by
  unfold tSeq tDrop tBM
  refine h.2.2 B S0 S σ H F kn _ fun S1 H1 e1 k1 => ?_
  obtain ⟨_, _, c⟩ := st_at k1 h.1
  refine ⟨.inl ⟨rfl, _, SqL.of (h.2.1 c)⟩, he B S0 S1 σ H1 F k1 _ fun v S2 H2 e2 k2 r2 => ?_⟩
  obtain ⟨_, _, c⟩ := st_at k2 h.1
  refine ⟨p, _, v, rfl, rfl, h.2.1 c, by rw [List.length_map]; exact hz, k S2 σ _ F ?_⟩
  rw [show v = .int x from r2, ← List.map_singleton (f := V.int), ← List.map_append]
  exact st_upd k2 h.1 (step c) hf fun q hq => upd_ne fun e => hq (by rw [e]; exact hp)
end
theorem qs_sent {x : Int} (hi : G[i]? = some (.ow z)) (he : EvX K te G x G) (hz : z.m.sent.length < sizeLine) (k : At K B S0 (u E) (G.set i (.ow { z with m := { z.m with sent := z.m.sent ++ [x] } }))) :
    At K B S0 (tSeq (tDrop (tBM K "list" rAppend (tDGet (tVar i) (tC (.str "sent"))) (tCons te tNil))) u E) G := q_appF (z' := { z with m := { z.m with sent := z.m.sent ++ [x] } }) (ef_sent hi) he hz rfl (fp41.mpr (.inr (.inr (.inl rfl)))) (fun c => c.setS) k
theorem qs_taken {n x : Int} (hi : G[i]? = some (.ow z)) (hb : EvX K tb G n G) (hn : 0 ≤ n ∧ n < (z.m.taken.length : Int)) (hl : z.tl.length = z.m.taken.length) (he : EvX K te G x G) (hz : (ix z.m.taken n).length < sizeLine) (k : At K B S0 (u E) (G.set i (.ow { z with m := { z.m with taken := z.m.taken.set n.toNat (ix z.m.taken n ++ [x]) } }))) :
    At K B S0 (tSeq (tDrop (tBM K "list" rAppend (tOp (rIxL K) (tDGet (tVar i) (tC (.str "taken"))) tb) (tCons te tNil))) u E) G := by
  have h1 : z.tl[n.toNat]? = some (tAt z n) := by
    unfold tAt
    rw [List.getElem?_eq_getElem (by omega)]
    rfl
  exact q_appF (z' := { z with m := { z.m with taken := z.m.taken.set n.toNat (ix z.m.taken n ++ [x]) } }) (ef_taken hi hb hn) he hz rfl (fp41.mpr (.inr (.inr (.inr (.inr (.inr (.inr (List.mem_of_getElem? h1)))))))) (fun c => c.setT h1) k
theorem qs_known {n x : Int} (h : EvX K te G x G) (hb : EvX K tb G n G) (hi : G[i]? = some (.ow z)) (hn : 0 ≤ n ∧ n < (z.m.known.length : Int)) (k : At K B S0 (u E) (G.set i (.ow { z with m := { z.m with known := z.m.known.set n.toNat x } }))) :
    At K B S0 (tSeq (tAsg te (gSub (tDGet (tVar i) (tC (.str "known"))) tb rSetL)) u E) G := fun S σ H F kn =>
  h B S0 S σ H F kn _ fun v S1 H1 e1 k1 r1 => (ef_known (K := K) hi).2.2 B S0 S1 σ H1 F k1 _ fun S2 H2 e2 k2 => hb B S0 S2 σ H2 F k2 _ fun w S3 H3 e3 k3 r3 => by
    obtain ⟨_, _, c⟩ := st_at k3 hi
    refine ⟨z.ka, _, n, n.toNat, rfl, r3, c.hk, ?_, k S3 σ _ F ?_⟩
    · unfold ixN
      rw [if_pos hn.1, if_pos (by rw [List.length_map]; exact hn.2)]
    · rw [show v = .int x from r1, ← List.map_set]
      exact st_upd k3 hi (z' := { z with m := { z.m with known := z.m.known.set n.toNat x } }) c.setK rfl fun q hq => upd_ne fun e => hq (by rw [e]; exact fp41.mpr (.inr (.inl rfl)))
end
end GL
namespace L2
open PySem PySem.Spec PyProof.Rows GL
def rNeNd (K : PySem.W.Frag) : R2 := fun x y H Q => ∃ a b L sh, x = .ref a ∧ y = .ref b ∧ H a = some (ndH a L) ∧ AllK K H sh L ∧ H b = some (.dK []) ∧ Q (.bl (!L.isEmpty)) H
section
variable {prog : Program} {w : World} {A : Around} {E : Value → Shared → Prop} {s : Shared}
theorem ne_raw {a b : Addr} {oa ob : Obj} {es es' : Array DictEntry} {ep ep' : Nat} {Q : Value → Shared → Prop} (ha : (a == sysModules) = false) (hb : (b == sysModules) = false) (ta : s.TypeIs (.ref a) "dict") (tb : s.TypeIs (.ref b) "dict")
    (hoa : s.heap.get? a = some oa) (hda : oa.data = .dict es ep) (hob : s.heap.get? b = some ob) (hdb : ob.data = .dict es' ep') (hu : A.units < cLine) (hsz : es.size ≠ es'.size) (h : Q (.bool true) s) : wpAny (model prog w) A (compareOp .NotEq (.ref a) (.ref b)) Q E s := by
  refine wpAny_richCompare_same_room (op := .NotEq) ta tb PySem.F.slot_dict_ne (wpAny_call_entry PySem.F.slot_dict_ne ta PySem.F.entry_dict_ne ?_ (PySem.F.args_dict_ne_2 _ _)) hu
  show wpAny _ _ (Builtin.Dict.dictSlotArgs "__ne__" ⟨[.ref a, .ref b], []⟩ >>= _) _ _ s
  refine wpAny_bind ?_
  unfold Builtin.Dict.dictSlotArgs
  refine wpAny_bind (wpAny_notOrdered_dict ta ?_)
  show wpAny _ _ (pure (Value.ref a, Value.ref b)) _ _ s
  refine wpAny_pure ?_
  refine wpAny_bind (wpAny_isInstance (T := "dict") tb PySem.F.sub_dict_dict ?_)
  simp only [Bool.not_true, Bool.false_eq_true, if_false]
  refine wpAny_bind (wpAny_pure (wpAny_bind (wpAny_pure ?_)))
  unfold Builtin.Dict.samePairs Builtin.Dict.showsAll
  rw [if_neg (show ¬ (a == sysModules) = true by rw [ha]; exact Bool.false_ne_true), if_neg (show ¬ (b == sysModules) = true by rw [hb]; exact Bool.false_ne_true)]
  refine wpAny_bind (wpAny_bind (wpAny_pure (wpAny_bind (wpAny_pure ?_))))
  refine wpAny_bind (wpAny_dictEntries hoa hda ?_)
  dsimp only
  refine wpAny_bind (wpAny_dictEntries hob hdb ?_)
  rw [if_pos (by simpa using hsz)]
  refine wpAny_bind (wpAny_rule (wpAny_pure ?_))
  refine wpAny_pure ⟨_, rfl, ?_, ?_⟩
  · exact fun x => nomatch x
  · simpa using h
end
section
variable {X : Cx}
theorem op_neNd (hu : X.A.units < cLine) : OpR X (compareOp .NotEq) (rNeNd X.K) := by
  intro pins s σ H x y v u Q I rx ry h
  obtain ⟨a, b, L, sh, rfl, rfl, ea, ak, eb, q⟩ := h
  obtain rfl : v = Value.ref a := rx
  obtain rfl : u = Value.ref b := ry
  obtain ⟨_, hda, xs, rel, dd⟩ := nd_of I ea ak
  obtain ⟨_, yb, vb, rb, db⟩ := (show ObjOk X.prog X.w H s.heap b (.dK []) from I.hok b _ eb)
  have lb : vb.length = 0 := rb.length.symm
  have hl : L.length = xs.length := Paired.length rel
  cases L with
  | nil =>
    have ex : xs = [] := List.length_eq_zero_iff.mp hl.symm
    subst ex
    have ev : vb = [] := List.length_eq_zero_iff.mp lb
    subst ev
    obtain ⟨o, es, ep, ho, hx, hdt, hes, _, _⟩ := dd
    have e0 : es = #[] := by
      apply Array.ext'
      rw [hes]
      rfl
    subst e0
    refine PySem.W.keq_ne (knd := mixKind X.prog X.w) (ka := []) (kb := []) (r := true) hda yb ⟨o, #[], ep, ho, hx, hdt, (fun e he => by simp at he), .nil, by simp⟩ db hu (fun hl => .nil) (fin_bl I q rfl)
  | cons e L =>
    have ty := dd.typeIs
    obtain ⟨o, es, ep, ho, hx, hdt, hes, _, _⟩ := dd
    have tyb := db.typeIs
    obtain ⟨ob, es', ep', hob, _, hdb, _, hpb, _⟩ := db
    have s1 : es.size = xs.length := by rw [← Array.length_toList, hes, List.length_map]
    have s2 : es'.size = 0 := by rw [← Array.length_toList, hpb.length]; exact lb
    exact ne_raw hda yb ty tyb ho hdt hob hdb hu (by rw [s1, s2, ← hl, List.length_cons]; omega) (fin_bl I q rfl)
def rLen41 (K : PySem.W.Frag) : List V → Hp → VK → Prop := fun xs H Q => ∃ (p : Addr) (L : NL) (sh : List Bool), xs = [.ref p] ∧ H p = some (ndH p L) ∧ AllK K H sh L ∧ Q (.int ((L.length : Nat) : Int)) H
theorem call_len41 {X : Cx} : CallR X (.builtin "len") (rLen41 X.K) := by
  intro pins s σ H xs us Q I r h
  obtain ⟨p, L, sh, rfl, hp, ak, q⟩ := h
  obtain ⟨u, rfl, rx⟩ := vals1 r
  obtain rfl : u = .ref p := rx
  obtain ⟨z, hd, ys, rel, dd⟩ := nd_of I hp ak
  have hl : L.length = ys.length := Paired.length rel
  have hz : ys.length ≤ 16777216 := by rw [← hl]; exact z
  refine call_len_dictH hd dd (by omega) ⟨.int ((L.length : Nat) : Int), H, I.tok _, ⟨_, by rw [hl]⟩, q⟩
def tNPop (K : PySem.W.Frag) (td : TE) (t : TA) : TE := fun σ H Q => td σ H fun x H1 => (∃ d L sh, x = .ref d ∧ H1 d = some (ndH d L) ∧ AllK K H1 sh L) ∧ t σ H1 fun xs H2 => rPopN K x xs H2 Q
theorem pe_npop {o e : Expr} {to : TE} {t : TA} {apos cpos : Pos} (hu : X.A.units + 2 < cLine) (ho : PE X o to) (ha : PA X [e] t)
    (hbase : attributeBase o "pop" X.env (eval o X.env) = eval o X.env := by rfl)
    (hfew : ((backTo cpos (starEach [e] X.env)).all (fun x => !x.1) && (backToKw cpos (keywordEach [] X.env)).all (fun x => x.1.isSome)
      && decide ([e].length + ([] : List Keyword).length + (if ([] : List Keyword).isEmpty then 0 else 1) < 30)) = true := by rfl)
    (hline : (apos.endLine == cpos.line) = true := by rfl) (hs : starEach [e] X.env = (false, eval e X.env) :: starEach [] X.env := by rfl) (hplain : (backTo cpos (starEach [] X.env)).any (·.1) = false := by rfl) :
    PE X (.Call (.Attribute o "pop" apos) [e] [] cpos) (tNPop X.K to t) := by
  refine ⟨fun pins s σ H Q I h => ?_⟩
  refine wpAny_Call_method_late hbase hfew hline rfl (thn (ho.run pins s σ H _ I h) fun v s1 ⟨x, H1, I1, r1, ⟨d, L, sh, ex, ed, ak⟩, q1⟩ => ?_)
  subst ex
  obtain rfl : v = Value.ref d := r1
  obtain ⟨_, _, _, _, dd⟩ := nd_of I1 ed ak
  refine ⟨"dict", "dict.pop", PySem.F.plainAttrs_dict, PySem.F.slot_dict_pop, PySem.F.type_dict_pop, dd.typeIs, (fun a e => ?_), ?_⟩
  · cases e
    obtain ⟨o, es, ep, ho, hx, _⟩ := dd
    exact ⟨o, ho, hx.2.1⟩
  · have hA := ha.run cpos pins s1 σ H1 _ I1 q1
    rw [hs] at hA ⊢
    refine Calls.callWith_builtin (by show (false || (backTo cpos (starEach [] X.env)).any (·.1)) = false; rw [hplain] <;> rfl) (Calls.evalArgs_plain ?_)
    exact thn hA fun us s2 ⟨vs, H2, I2, r2, q2⟩ => mt_popN hu pins s2 σ H2 (.ref d) vs (.ref d) us Q I2 rfl r2 q2
end
end L2
namespace GL
open PySem PySem.Spec PyProof.Rows L2
theorem rep_getN {α β : Type} [NKey α] [Py β] [DecidableEq α] {K : Fg} {S : Hp} {d : DN α β} {L : NL} {k : α} {y : β} (h : RepN K S L d.l) (e : d.get? k = some y) : ∃ v, valN L (NKey.key k) = some v ∧ Py.rep K S v y := by
  have hv : match d.get? k with
    | some y => ∃ v, valN L (NKey.key k) = some v ∧ Py.rep K S v y
    | none => valN L (NKey.key k) = none := h.val k
  rw [e] at hv
  exact hv
section
variable {K : Fg} {B S0 S1 S S' D : Hp} {σ : L2.St} {H H' : Hp} {F : Nat → List Addr} {G G' G1 G2 G3 : List Sl} {ta tb tc td te : TE} {i j l : Nat} {t u : TS} {E : Ends} {z z' : St41} {q : Int × Int}
theorem sg_get {Q : VK} (k : Kn K B S0 S σ H F G) (hi : G[i]? = some (.ow z)) (h : Q (.ref z.ga) H) : tDGet (tVar i) (tC (.str "going")) σ H Q := st_get 5 (by decide +kernel) (by decide) k hi rfl h
theorem sh_get {Q : VK} (k : Kn K B S0 S σ H F G) (hi : G[i]? = some (.ow z)) (h : Q (.ref z.ha) H) : tDGet (tVar i) (tC (.str "here")) σ H Q := st_get 6 (by decide +kernel) (by decide) k hi rfl h
theorem fp_g : z.ga ∈ z.fp := fp41.mpr (.inr (.inr (.inr (.inl rfl))))
theorem fp_h : z.ha ∈ z.fp := fp41.mpr (.inr (.inr (.inr (.inr (.inl rfl)))))
theorem ev_lenG (hi : G[i]? = some (.ow z)) : EvX K (tCB (rLen41 K) (tCons (tDGet (tVar i) (tC (.str "going"))) tNil)) G ((z.m.going.l.length : Nat) : Int) G := fun B S0 S σ H F kn Q q => sg_get kn hi (by
  obtain ⟨_, _, c⟩ := st_at kn hi
  obtain ⟨L, h3, h4⟩ := c.hg
  exact ⟨z.ga, L, _, rfl, h3, h4.all kn.sub, q _ S H (Same.refl _) kn (by rw [← h4.len]; rfl)⟩)
theorem ev_neG (hi : G[i]? = some (.ow z)) : EvX K (tOp (rNeNd K) (tDGet (tVar i) (tC (.str "going"))) tDNewK) G (!z.m.going.l.isEmpty) G := fun B S0 S σ H F kn Q q => sg_get kn hi (by
  intro p hp
  obtain ⟨_, _, c⟩ := st_at kn hi
  obtain ⟨L, h3, h4⟩ := c.hg
  have k2 := kn.raw (o := .dK []) hp
  have hne : z.ga ≠ p := fun e => by rw [e, hp] at h3; cases h3
  refine ⟨z.ga, p, L, _, rfl, rfl, by rw [upd_ne hne]; exact h3, h4.all k2.sub, upd_same, q _ S _ (Same.refl _) k2 ?_⟩
  have hl := h4.len
  cases L <;> cases e : z.m.going.l <;> rw [e] at hl <;> first | rfl | cases hl)
theorem el_sortG (hi : G[i]? = some (.ow z)) : EvL K (tCB (rSortN K) (tCons (tDGet (tVar i) (tC (.str "going"))) tNil)) G (srt2 (z.m.going.l.map (·.1))) G := fun B S0 S σ H F k Q q => sg_get k hi (by
  obtain ⟨_, _, c⟩ := st_at k hi
  obtain ⟨L, h3, h4⟩ := c.hg
  refine ⟨z.ga, L, rfl, h3, h4.pairs k.sub, fun ys l pm so hl => ?_⟩
  obtain ⟨zs, g1, g2⟩ := RepL.perm pm h4.keyL
  have e : zs = srt2 (z.m.going.l.map (·.1)) := srt2_eq g1 (pw_le2 k.sub g2 so)
  rw [e] at g2
  exact mk_list k hl g2 fun p vs S2 H2 e2 k2 a b c d r => q p vs S2 H2 e2 k2 a b c d r)
theorem ev_getG (hi : G[i]? = some (.ow z)) (hk : EvX K tb G q G) (hs : (z.m.going.get? q).isSome = true) : EvX K (tNGet K (tDGet (tVar i) (tC (.str "going"))) tb) G ((z.m.going.get? q).getD 0) G := fun B S0 S σ H F kn Q qq => sg_get kn hi (hk B S0 S σ H F kn _ fun v S1 H1 e1 k1 r1 => by
  obtain ⟨_, _, c⟩ := st_at k1 hi
  obtain ⟨L, h3, h4⟩ := c.hg
  obtain ⟨b, rfl, n⟩ := nat_at (α := Int × Int) (β := Int) k1.sub h3 h4 r1
  obtain ⟨y, e⟩ := Option.isSome_iff_exists.mp hs
  obtain ⟨w, hw, rw'⟩ := rep_getN h4 e
  exact ⟨z.ga, b, L, NKey.key q, w, rfl, rfl, n, hw, qq w S1 H1 e1 k1 (by rw [e]; exact rw')⟩)
theorem qs_going {x : Int} (h : EvX K te G x G) (hi : G[i]? = some (.ow z)) (hk : EvX K tb G q G) (hz : z.m.going.l.length < sizeLine) (k : At K B S0 (u E) (G.set i (.ow { z with m := { z.m with going := z.m.going.put q x } }))) :
    At K B S0 (tSeq (sNPut K (tDGet (tVar i) (tC (.str "going"))) tb te) u E) G := fun S σ H F kn =>
  h B S0 S σ H F kn _ fun v S1 H1 e1 k1 r1 => sg_get k1 hi (hk B S0 S1 σ H1 F k1 _ fun w S2 H2 e2 k2 r2 => by
    obtain ⟨_, _, c⟩ := st_at k2 hi
    obtain ⟨L, h3, h4⟩ := c.hg
    obtain ⟨b, rfl, n⟩ := nat_at (α := Int × Int) (β := Int) k2.sub h3 h4 r2
    exact ⟨z.ga, b, L, NKey.key q, rfl, rfl, n, by rw [h4.len]; exact hz, k S2 σ _ F (st_upd k2 hi (z' := { z with m := { z.m with going := z.m.going.put q x } }) (c.setG (h4.put r2 (Py.mono e2 r1))) rfl fun a ha => upd_ne fun e => ha (by rw [e]; exact fp_g))⟩)
theorem qs_goingV {τ : Type} {R : τ → Prop} {y : τ → Int × Int} {st : τ → List Sl} {x : Int} (h : EvX K te G x G) (hi : G[i]? = some (.ow z)) (hk : EvMv K tb G R y st) (hi2 : ∀ w, R w → (st w)[i]? = some (.ow z)) (hz : z.m.going.l.length < sizeLine)
    (k : ∀ w, R w → At K B S0 (u E) ((st w).set i (.ow { z with m := { z.m with going := z.m.going.put (y w) x } }))) :
    At K B S0 (tSeq (sNPut K (tDGet (tVar i) (tC (.str "going"))) tb te) u E) G := fun S σ H F kn =>
  h B S0 S σ H F kn _ fun v S1 H1 e1 k1 r1 => sg_get k1 hi (hk B S0 S1 σ H1 F k1 _ fun w hw v2 S2 H2 F2 e2 k2 r2 => by
    obtain ⟨_, _, c⟩ := st_at k2 (hi2 w hw)
    obtain ⟨L, h3, h4⟩ := c.hg
    obtain ⟨b, rfl, n⟩ := nat_at (α := Int × Int) (β := Int) k2.sub h3 h4 r2
    exact ⟨z.ga, b, L, NKey.key (y w), rfl, rfl, n, by rw [h4.len]; exact hz, k w hw S2 σ _ F2 (st_upd k2 (hi2 w hw) (z' := { z with m := { z.m with going := z.m.going.put (y w) x } }) (c.setG (h4.put r2 (Py.mono e2 r1))) rfl fun a ha => upd_ne fun e => ha (by rw [e]; exact fp_g))⟩)
theorem ev_popG {x : Int} (hi : G[i]? = some (.ow z)) (hk : EvX K tb G q G) (hx : z.m.going.get? q = some x) : EvX K (tNPop K (tDGet (tVar i) (tC (.str "going"))) (tCons tb tNil)) G x (G.set i (.ow { z with m := { z.m with going := z.m.going.del q } })) := fun B S0 S σ H F kn Q qq => sg_get kn hi (by
  obtain ⟨_, _, c0⟩ := st_at kn hi
  obtain ⟨L0, g3, g4⟩ := c0.hg
  refine ⟨⟨z.ga, L0, _, rfl, g3, g4.all kn.sub⟩, hk B S0 S σ H F kn _ fun v S1 H1 e1 k1 r1 => ?_⟩
  obtain ⟨_, _, c⟩ := st_at k1 hi
  obtain ⟨L, h3, h4⟩ := c.hg
  obtain ⟨b, rfl, n⟩ := nat_at (α := Int × Int) (β := Int) k1.sub h3 h4 r1
  obtain ⟨w, hw, rw'⟩ := rep_getN h4 hx
  exact ⟨z.ga, b, L, NKey.key q, w, rfl, rfl, n, hw, qq w S1 _ e1 (st_upd k1 hi (z' := { z with m := { z.m with going := z.m.going.del q } }) (c.setG (h4.del q)) rfl fun a ha => upd_ne fun e => ha (by rw [e]; exact fp_g)) rw'⟩)
theorem ev_ninH {n : Int} (hk : EvX K ta G n G) (hi : G[i]? = some (.ow z)) : EvX K (tDNotIn ta (tDGet (tVar i) (tC (.str "here")))) G (!(z.m.here.get? n).isSome) G := fun B S0 S σ H F kn Q q =>
  hk B S0 S σ H F kn _ fun v S1 H1 e1 k1 r1 => sh_get k1 hi (by
    obtain ⟨_, _, c⟩ := st_at k1 hi
    obtain ⟨kvs, h3, h4⟩ := c.hh
    rw [show v = .int n from r1]
    exact ⟨z.ha, _, rfl, DGet.k (k := Sum.inl n) h3, q _ S1 H1 e1 k1 (by rw [h4.isSome]; rfl)⟩)
theorem qs_here {n : Int} {x : Bool} (h : EvX K te G x G) (hi : G[i]? = some (.ow z)) (hk : EvX K tb G n G) (hz : z.m.here.l.length < sizeLine) (k : At K B S0 (u E) (G.set i (.ow { z with m := { z.m with here := z.m.here.put n x } }))) :
    At K B S0 (tSeq (sDPut (tDGet (tVar i) (tC (.str "here"))) tb te) u E) G := fun S σ H F kn =>
  h B S0 S σ H F kn _ fun v S1 H1 e1 k1 r1 => sh_get k1 hi (hk B S0 S1 σ H1 F k1 _ fun w S2 H2 e2 k2 r2 => by
    obtain ⟨_, _, c⟩ := st_at k2 hi
    obtain ⟨kvs, h3, h4⟩ := c.hh
    rw [show w = .int n from r2]
    exact ⟨z.ha, _, rfl, DPut.k (k := Sum.inl n) h3 (by rw [h4.len]; exact hz), k S2 σ _ F (st_upd k2 hi (z' := { z with m := { z.m with here := z.m.here.put n x } }) (c.setH (h4.put n (Py.mono e2 r1))) rfl fun a ha => upd_ne fun e => ha (by rw [e]; exact fp_h))⟩)
theorem it_enumS (hi : G[i]? = some (.ow z)) : ItN K i z (iEnum K (tCons (tDGet (tVar i) (tC (.str "sent"))) tNil)) G (enumI z.m.sent) G := fun B S0 S σ H F k R q => (ef_sent (K := K) hi).2.2 B S0 S σ H F k _ fun S1 H1 e1 k1 => by
  obtain ⟨_, _, c1⟩ := st_at k1 hi
  refine ⟨z.sa, _, rfl, SqL.of c1.hs, q (Ite K z.sa) S1 H1 e1 k1 fun B2 S02 S2 σ2 H2 F2 G2 n k2 hi2 => ?_⟩
  obtain ⟨_, _, c2⟩ := st_at k2 hi2
  have h1 : SqL K H2 z.sa _ := SqL.of c2.hs
  have hlen : (enumI z.m.sent).length = z.m.sent.length := by unfold enumI; rw [List.length_map, List.length_zipIdx]
  refine ⟨fun x hx => ?_, fun hl => ⟨_, h1, by rw [List.length_map, ← hlen]; exact hl⟩⟩
  have hj : n < z.m.sent.length := by rw [← hlen]; exact (List.getElem?_eq_some_iff.mp hx).1
  have ex : x = ((n : Int), (z.m.sent)[n]) := by
    unfold enumI at hx
    rw [List.getElem?_map, List.getElem?_zipIdx, List.getElem?_eq_getElem hj] at hx
    simpa using hx.symm
  subst ex
  have hvn : (z.m.sent.map V.int)[n]? = some (V.int (z.m.sent)[n]) := by rw [List.getElem?_map, List.getElem?_eq_getElem hj]; rfl
  refine ⟨⟨_, _, h1, hvn⟩, fun w H'' y => ?_⟩
  obtain ⟨T, u, rfl, hT, rfl, y⟩ := y
  have e := y _ h1
  rw [hvn] at e
  cases e
  exact ⟨_, Grow.new (o := .tup [.int (n : Nat), .int (z.m.sent)[n]]) k2.sub hT, T, _, _, rfl, SqT.of upd_same, rfl, rfl⟩
end
end GL
namespace GL
open PySem PySem.Spec PyProof.Rows L2
abbrev NP := Hp → Hp → V → List Addr → Prop
def EvO1 (K : Fg) (te : TE) (G : List Sl) (P : NP) : Prop :=
  ∀ B S0 S σ H F, Kn K B S0 S σ H F G → ∀ Q : VK, (∀ v S' H' fs, Same S S' → Kn K B S0 S' σ H' F G → P S' H' v fs → fs.Nodup → (∀ q ∈ fs, S' q = none ∧ (∃ o, H' q = some o) ∧ B q = none ∧ ∀ j, q ∉ F j) → Q v H') → te σ H Q
def StP (P : NP) : Prop := ∀ {S S' H H' : Hp} {v : V} {fs : List Addr}, P S H v fs → Same S S' → (∀ q ∈ fs, H' q = H q) → P S' H' v fs
inductive AllP (S H : Hp) : List NP → List V → List (List Addr) → Prop
  | nil : AllP S H [] [] []
  | cons {P : NP} {Ps : List NP} {v : V} {vs : List V} {fs : List Addr} {fss : List (List Addr)} : P S H v fs → AllP S H Ps vs fss → AllP S H (P :: Ps) (v :: vs) (fs :: fss)
def EvOs (K : Fg) (trs : List (TE × TE)) (G : List Sl) (ks : List Key) (Ps : List NP) : Prop :=
  ∀ B S0 S σ H F, Kn K B S0 S σ H F G → ∀ Q : List (V × V) → Hp → Prop, (∀ vs S' H' fss, Same S S' → Kn K B S0 S' σ H' F G → ks.length = vs.length → AllP S' H' Ps vs fss → fss.flatten.Nodup → (∀ q ∈ fss.flatten, S' q = none ∧ (∃ o, H' q = some o) ∧ B q = none ∧ ∀ j, q ∉ F j) → Q ((ks.map kV).zip vs) H') → tPairs trs σ H Q
section
variable {K : Fg} {B S0 S1 S S' D : Hp} {σ : L2.St} {H H' : Hp} {F : Nat → List Addr} {G G' G1 G2 G3 : List Sl} {ta tb te : TE} {i j : Nat} {t u : TS} {E : Ends} {f : Str} {ks : List Key}
theorem os_nil : EvOs K [] G [] [] := fun B S0 S σ H F k Q q => q [] S H [] (Same.refl _) k rfl .nil List.nodup_nil (fun q hq => by cases hq)
theorem os_cons {P : NP} {Ps : List NP} {trs : List (TE × TE)} (st : StP P) (h : EvO1 K te G P) (hr : EvOs K trs G ks Ps) : EvOs K ((tC (.str f), te) :: trs) G (.inr f :: ks) (P :: Ps) := fun B S0 S σ H F k Q q =>
  h B S0 S σ H F k _ fun v S1 H1 fs e1 k1 hp1 nd1 hf1 => by
    refine hr _ S0 S1 σ H1 F (k1.pinT (fs := fs) fun q hq => ⟨(hf1 q hq).1, (hf1 q hq).2.1, (hf1 q hq).2.2.2⟩) _ fun vs S2 H2 fss e2 k2 hl hal nd2 hf2 => ?_
    obtain ⟨k3, hk⟩ := k2.unpinT fun q hq => ⟨(hf1 q hq).2.2.1, (hf1 q hq).2.1⟩
    have s0n : ∀ q ∈ fs, S0 q = none := fun q hq => by
      cases e0 : S0 q with
      | none => rfl
      | some o => have := k1.s0 q o e0; rw [(hf1 q hq).1] at this; cases this
    have off : ∀ q ∈ fs, q ∉ fss.flatten := fun q hq m => by
      have := (hf2 q m).2.2.1
      rw [if_pos hq] at this
      obtain ⟨o, ho⟩ := (hf1 q hq).2.1
      rw [ho] at this; cases this
    refine q (v :: vs) S2 H2 (fs :: fss) (e1.trans e2) k3 (by rw [List.length_cons, List.length_cons, hl]) (.cons (st hp1 e2 fun q hq => (hk q hq).1) hal) ?_ fun q hq => ?_
    · rw [List.flatten_cons]
      exact List.nodup_append.mpr ⟨nd1, nd2, fun a ha b hb e => off a ha (e ▸ hb)⟩
    · rw [List.flatten_cons] at hq
      rcases List.mem_append.mp hq with hq | hq
      · obtain ⟨o, ho⟩ := (hf1 q hq).2.1
        exact ⟨(hk q hq).2.1 (s0n q hq), ⟨o, (hk q hq).1.trans ho⟩, (hf1 q hq).2.2.1, (hk q hq).2.2⟩
      · obtain ⟨a1, a2, a3, a4⟩ := hf2 q hq
        refine ⟨a1, a2, ?_, a4⟩
        rw [if_neg fun c => off q c hq] at a3
        exact a3
theorem AllP.mono {Ps : List NP} {vs : List V} {fss : List (List Addr)} (h : AllP S H Ps vs fss) (hs : ∀ P ∈ Ps, StP P) (e : Same S S') (a : ∀ q ∈ fss.flatten, H' q = H q) : AllP S' H' Ps vs fss := by
  induction h with
  | nil => exact .nil
  | cons hp _ ih =>
    refine .cons (hs _ List.mem_cons_self hp e fun q hq => a q ?_) (ih (fun P hP => hs P (List.mem_cons_of_mem _ hP)) fun q hq => a q ?_)
    · rw [List.flatten_cons]; exact List.mem_append_left _ hq
    · rw [List.flatten_cons]; exact List.mem_append_right _ hq
theorem ev_dispO {Ps : List NP} {trs : List (TE × TE)} (hst : ∀ P ∈ Ps, StP P) (h : EvOs K trs G ks Ps) (nd : ks.Nodup) (hl : ks.length ≤ 15) :
    EvO1 K (tDisp trs) G (fun S H v fs => ∃ p vs fss, v = .ref p ∧ fs = p :: fss.flatten ∧ H p = some (.dK (ks.zip vs)) ∧ ks.length = vs.length ∧ AllP S H Ps vs fss) := fun B S0 S σ H F k Q q => fun p hp => by
  obtain ⟨f1, f2, f3⟩ := k.free hp
  have k1 := (k.raw (o := .dK []) hp).pinT (fs := [p]) fun q hq => by
    rw [List.mem_singleton.mp hq]
    exact ⟨f1, ⟨_, upd_same⟩, f3⟩
  refine h _ S0 S σ _ F k1 _ fun vs S2 H2 fss e2 k2 hlen hal nd2 hf => ?_
  obtain ⟨k3, hk⟩ := k2.unpinT fun q hq => by
    rw [List.mem_singleton.mp hq]
    exact ⟨f2, _, upd_same⟩
  obtain ⟨g1, g2, g3⟩ := hk p (List.mem_singleton.mpr rfl)
  rw [upd_same] at g1
  have s0n : S0 p = none := by
    cases e0 : S0 p with
    | none => rfl
    | some o => have := k.s0 p o e0; rw [f1] at this; cases this
  have np : ∀ q ∈ fss.flatten, q ≠ p := fun q hq e => by
    have := (hf q hq).2.2.1
    rw [if_pos (by rw [e]; exact List.mem_singleton.mpr rfl), e, upd_same] at this
    cases this
  have hz : (ks.zip vs).length = ks.length := by rw [List.length_zip, hlen, Nat.min_self]
  refine ⟨g1, ks.zip vs, zip_kv, by rw [hz]; exact hl, ?_⟩
  rw [merge_new (kvs := []) (by rw [List.nil_append, zip_fst hlen]; exact nd), List.nil_append]
  refine q (.ref p) S2 _ (p :: fss.flatten) e2 (k3.poke (g2 s0n) f2 g3) ⟨p, vs, fss, rfl, rfl, upd_same, hlen, hal.mono hst (Same.refl _) fun q hq => upd_ne (np q hq)⟩ (List.nodup_cons.mpr ⟨fun m => np p m rfl, nd2⟩) fun q hq => ?_
  rcases List.mem_cons.mp hq with e | hq
  · rw [e]; exact ⟨g2 s0n, ⟨_, upd_same⟩, f2, g3⟩
  · obtain ⟨a1, a2, a3, a4⟩ := hf q hq
    refine ⟨a1, by rw [upd_ne (np q hq)]; exact a2, ?_, a4⟩
    rw [if_neg fun c => np q hq (List.mem_singleton.mp c)] at a3
    exact a3
def pX {α : Type} [Py α] (K : Fg) (x : α) : NP := fun S H v fs => Py.rep K S v x ∧ fs = []
def pL (xs : List Int) : NP := fun S H v fs => ∃ p, v = .ref p ∧ fs = [p] ∧ H p = some (.lst (xs.map V.int))
def pN : NP := fun S H v fs => ∃ p, v = .ref p ∧ fs = [p] ∧ H p = some (ndH p [])
def pD : NP := fun S H v fs => ∃ p, v = .ref p ∧ fs = [p] ∧ H p = some (.dK [])
def pT (n : Nat) : NP := fun S H v fs => ∃ p qs, v = .ref p ∧ fs = p :: qs ∧ H p = some (.lst (qs.map V.ref)) ∧ qs.length = n ∧ ∀ q ∈ qs, H q = some (.lst [])
theorem st_pX {α : Type} [Py α] {x : α} : StP (pX K x) := fun h e _ => ⟨Py.mono e h.1, h.2⟩
theorem st_pL {xs : List Int} : StP (pL xs) := fun ⟨p, h1, h2, h3⟩ _ a => ⟨p, h1, h2, by rw [a p (by rw [h2]; exact List.mem_singleton.mpr rfl)]; exact h3⟩
theorem st_pN : StP pN := fun ⟨p, h1, h2, h3⟩ _ a => ⟨p, h1, h2, by rw [a p (by rw [h2]; exact List.mem_singleton.mpr rfl)]; exact h3⟩
theorem st_pD : StP pD := fun ⟨p, h1, h2, h3⟩ _ a => ⟨p, h1, h2, by rw [a p (by rw [h2]; exact List.mem_singleton.mpr rfl)]; exact h3⟩
theorem st_pT {n : Nat} : StP (pT n) := fun ⟨p, qs, h1, h2, h3, h4, h5⟩ _ a => ⟨p, qs, h1, h2, by rw [a p (by rw [h2]; exact List.mem_cons_self)]; exact h3, h4, fun q hq => by rw [a q (by rw [h2]; exact List.mem_cons_of_mem _ hq)]; exact h5 q hq⟩
theorem eo_x {α : Type} [Py α] {x : α} (h : EvX K te G x G) : EvO1 K te G (pX K x) := fun B S0 S σ H F k Q q => h B S0 S σ H F k _ fun v S1 H1 e1 k1 r1 => q v S1 H1 [] e1 k1 ⟨r1, rfl⟩ List.nodup_nil fun q hq => by cases hq
theorem eo_l {xs : List Int} (h : EvL K te G xs G) : EvO1 K te G (pL xs) := fun B S0 S σ H F k Q q => h B S0 S σ H F k _ fun p vs S1 H1 e1 k1 a b c d r => q (.ref p) S1 H1 [p] e1 k1 ⟨p, rfl, rfl, by rw [← r.ints]; exact d⟩ (by simp) fun q hq => by
  rw [List.mem_singleton.mp hq]
  exact ⟨a, ⟨_, d⟩, b, c⟩
theorem eo_n : EvO1 K tNNew G pN := fun B S0 S σ H F k Q q => fun p hp => by
  obtain ⟨a, b, c⟩ := k.free hp
  exact q (.ref p) S _ [p] (Same.refl _) (k.raw hp) ⟨p, rfl, rfl, upd_same⟩ (by simp) fun q hq => by
    rw [List.mem_singleton.mp hq]
    exact ⟨a, ⟨_, upd_same⟩, b, c⟩
theorem eo_d : EvO1 K tDNewK G pD := fun B S0 S σ H F k Q q => fun p hp => by
  obtain ⟨a, b, c⟩ := k.free hp
  exact q (.ref p) S _ [p] (Same.refl _) (k.raw hp) ⟨p, rfl, rfl, upd_same⟩ (by simp) fun q hq => by
    rw [List.mem_singleton.mp hq]
    exact ⟨a, ⟨_, upd_same⟩, b, c⟩
theorem kids_nil {n : Nat} : ∀ {l' : List Tr} {vs : List V}, l'.map erT = List.replicate n (.nod 0 .lst []) → vs.length = l'.length → (∀ (k : Nat) v c, vs[k]? = some v → l'[k]? = some c → OkT K S H v c) → (∀ (j k : Nat) c d, j ≠ k → l'[j]? = some c → l'[k]? = some d → ∀ q ∈ fpT c, q ∉ fpT d) →
    ∃ qs : List Addr, vs = qs.map V.ref ∧ qs.length = n ∧ (∀ q ∈ qs, H q = some (.lst []) ∧ q ∈ fpL l') ∧ qs.Nodup := by
  induction n with
  | zero =>
    intro l' vs h1 h2 _ _
    cases l' with
    | nil =>
      have : vs = [] := List.length_eq_zero_iff.mp h2
      exact ⟨[], by rw [this]; rfl, rfl, (fun q hq => by cases hq), List.nodup_nil⟩
    | cons c l => cases h1
  | succ n ih =>
    intro l' vs h1 h2 h3 h4
    cases l' with
    | nil => cases h1
    | cons c l =>
      cases vs with
      | nil => cases h2
      | cons v vs =>
        rw [List.map_cons, List.replicate_succ] at h1
        injection h1 with h1 h1'
        obtain ⟨a, l2, rfl, e2⟩ := er_isLst h1
        have e2' : l2 = [] := List.map_eq_nil_iff.mp e2
        subst e2'
        have o := h3 0 _ _ rfl rfl
        have ev := okt_ref o
        subst ev
        obtain ⟨ws, w1, _, w3, _⟩ := okt_node o
        have hw : ws = [] := List.length_eq_zero_iff.mp w3
        subst hw
        obtain ⟨qs, g1, g2, g3, g4⟩ := ih (l' := l) (vs := vs) h1' (by simpa using h2) (fun k v c hv hc => h3 (k + 1) v c hv hc) (fun j k c d ne hc hd => h4 (j + 1) (k + 1) c d (fun e => ne (by omega)) hc hd)
        refine ⟨a :: qs, by rw [g1]; rfl, by rw [List.length_cons, g2], fun q hq => ?_, List.nodup_cons.mpr ⟨fun m => ?_, g4⟩⟩
        · rcases List.mem_cons.mp hq with e | hq
          · rw [e]
            exact ⟨w1, fp_sub (a := 0) (s := .lst) (l := .nod a .lst [] :: l) (k := 0) rfl (fp_nod.mpr (.inl rfl))⟩
          · refine ⟨(g3 q hq).1, ?_⟩
            unfold fpL
            exact List.mem_append_right _ (g3 q hq).2
        · obtain ⟨d, hd, hq⟩ := mem_fpL.mp (g3 a m).2
          obtain ⟨k, hk⟩ := List.getElem?_of_mem hd
          exact h4 0 (k + 1) _ _ (by omega) rfl hk a (fp_nod.mpr (.inl rfl)) hq
theorem eo_t {n : Nat} (h : EvTn K te G (.nod 0 .lst (List.replicate n (.nod 0 .lst [])))) : EvO1 K te G (pT n) := fun B S0 S σ H F k Q q => h B S0 S σ H F k _ fun v S1 H1 x1 e1 k1 ex ox hx => by
  obtain ⟨a, l', rfl, el⟩ := er_isLst ex
  have ev := okt_ref ox
  subst ev
  obtain ⟨vs, h1, _, h3, h4, h5, h6⟩ := okt_node ox
  obtain ⟨qs, rfl, g2, g3, g4⟩ := kids_nil el h3 h4 h6
  refine q (.ref a) S1 H1 (a :: qs) e1 k1 ⟨a, qs, rfl, rfl, h1, g2, fun q hq => (g3 q hq).1⟩ (List.nodup_cons.mpr ⟨fun m => h5 (g3 a m).2, g4⟩) fun q hq => ?_
  have hm : q ∈ fpT (.nod a .lst l') := by
    rcases List.mem_cons.mp hq with e | hq
    · rw [e]; exact fp_nod.mpr (.inl rfl)
    · exact fp_nod.mpr (.inr (g3 q hq).2)
  exact ⟨(hx q hm).1, ox.som q hm, (hx q hm).2.1, (hx q hm).2.2⟩
theorem AllP.inv {P : NP} {Ps : List NP} {vs : List V} {fss : List (List Addr)} (h : AllP S H (P :: Ps) vs fss) : ∃ v vs' fs fss', vs = v :: vs' ∧ fss = fs :: fss' ∧ P S H v fs ∧ AllP S H Ps vs' fss' := by
  cases h with
  | cons a b => exact ⟨_, _, _, _, rfl, rfl, a, b⟩
theorem AllP.inv0 {vs : List V} {fss : List (List Addr)} (h : AllP S H [] vs fss) : vs = [] ∧ fss = [] := by cases h; exact ⟨rfl, rfl⟩
def S41.new (h a s : Int) : S41 := ⟨h, a, (List.replicate s.toNat [0]).flatten, 0, [], DN.emp, Dct.emp, List.replicate s.toNat [], false⟩
theorem q_newSt {h a s : Int} {tn tm : TE} (n : Nat) (hh : EvX K ta G h G) (ha : EvX K tb G a G) (hk : EvL K tn G ((List.replicate s.toNat [(0 : Int)]).flatten) G) (ht : EvTn K tm G (.nod 0 .lst (List.replicate s.toNat (.nod 0 .lst [])))) (hi : G[n]?.isSome = true)
    (k : ∀ z : St41, z.m = S41.new h a s → z.tl.length = z.m.taken.length → At K B S0 (u E) (G.set n (.ow z))) :
    At K B S0 (tSeq (tAsg (tDisp [(tC (.str "houses"), ta), (tC (.str "at"), tb), (tC (.str "known"), tn), (tC (.str "carried"), tC (.int 0)), (tC (.str "sent"), tLst tNil), (tC (.str "going"), tNNew), (tC (.str "here"), tDNewK), (tC (.str "taken"), tm), (tC (.str "wrong"), tC (.bl false))]) (gName n)) u E) G := fun S σ H F kn => by
  have hOs : EvOs K [(tC (.str "houses"), ta), (tC (.str "at"), tb), (tC (.str "known"), tn), (tC (.str "carried"), tC (.int 0)), (tC (.str "sent"), tLst tNil), (tC (.str "going"), tNNew), (tC (.str "here"), tDNewK), (tC (.str "taken"), tm), (tC (.str "wrong"), tC (.bl false))] G stK [pX K h, pX K a, pL ((List.replicate s.toNat [(0 : Int)]).flatten), pX K (0 : Int), pL [], pN, pD, pT s.toNat, pX K false] := by
    unfold stK
    refine os_cons st_pX (eo_x hh) ?_
    refine os_cons st_pX (eo_x ha) ?_
    refine os_cons st_pL (eo_l hk) ?_
    refine os_cons st_pX (eo_x ev_int) ?_
    refine os_cons st_pL (eo_l (el_lst (els_nil (α := Int)) (by simp))) ?_
    refine os_cons st_pN eo_n ?_
    refine os_cons st_pD eo_d ?_
    refine os_cons st_pT (eo_t ht) ?_
    exact os_cons st_pX (eo_x ev_bl) os_nil
  have hd := ev_dispO (K := K) (G := G) (ks := stK) (Ps := [pX K h, pX K a, pL ((List.replicate s.toNat [(0 : Int)]).flatten), pX K (0 : Int), pL [], pN, pD, pT s.toNat, pX K false])
    (by
      intro P hP
      simp only [List.mem_cons, List.mem_nil_iff, or_false] at hP
      rcases hP with e | e | e | e | e | e | e | e | e <;> rw [e]
      · exact st_pX
      · exact st_pX
      · exact st_pL
      · exact st_pX
      · exact st_pL
      · exact st_pN
      · exact st_pD
      · exact st_pT
      · exact st_pX)
    hOs stK_nd (by decide)
  unfold tSeq tAsg
  clear hOs
  generalize tDisp [(tC (.str "houses"), ta), (tC (.str "at"), tb), (tC (.str "known"), tn), (tC (.str "carried"), tC (.int 0)), (tC (.str "sent"), tLst tNil), (tC (.str "going"), tNNew), (tC (.str "here"), tDNewK), (tC (.str "taken"), tm), (tC (.str "wrong"), tC (.bl false))] = td at hd ⊢
  refine hd B S0 S σ H F kn _ fun v S1 H1 fs e1 k1 hp nd hf => ?_
  obtain ⟨p, vs, fss, rfl, rfl, ho, hlen, hal⟩ := hp
  obtain ⟨v0, vs, f0, fss, rfl, rfl, p0, hal⟩ := hal.inv
  obtain ⟨v1, vs, f1, fss, rfl, rfl, p1, hal⟩ := hal.inv
  obtain ⟨v2, vs, f2, fss, rfl, rfl, p2, hal⟩ := hal.inv
  obtain ⟨v3, vs, f3, fss, rfl, rfl, p3, hal⟩ := hal.inv
  obtain ⟨v4, vs, f4, fss, rfl, rfl, p4, hal⟩ := hal.inv
  obtain ⟨v5, vs, f5, fss, rfl, rfl, p5, hal⟩ := hal.inv
  obtain ⟨v6, vs, f6, fss, rfl, rfl, p6, hal⟩ := hal.inv
  obtain ⟨v7, vs, f7, fss, rfl, rfl, p7, hal⟩ := hal.inv
  obtain ⟨v8, vs, f8, fss, rfl, rfl, p8, hal⟩ := hal.inv
  obtain ⟨rfl, rfl⟩ := hal.inv0
  obtain ⟨r0, rfl⟩ := p0
  obtain ⟨r1, rfl⟩ := p1
  obtain ⟨ka, rfl, rfl, r2⟩ := p2
  obtain ⟨r3, rfl⟩ := p3
  obtain ⟨sa, rfl, rfl, r4⟩ := p4
  obtain ⟨ga, rfl, rfl, r5⟩ := p5
  obtain ⟨da, rfl, rfl, r6⟩ := p6
  obtain ⟨tA, qs, rfl, rfl, r7, r8, r9⟩ := p7
  obtain ⟨r10, rfl⟩ := p8
  have r0 := (show _ = V.int h from r0)
  have r1 := (show _ = V.int a from r1)
  have r3 := (show _ = V.int 0 from r3)
  have r10 := (show _ = V.bl false from r10)
  subst r0 r1 r3 r10
  have efp : p :: [[], [], [ka], [], [sa], [ga], [da], tA :: qs, ([] : List Addr)].flatten = (St41.mk p ka sa ga da tA qs (S41.new h a s)).fp := by simp [St41.fp]
  rw [efp] at nd hf
  have c : StAt K S1 H1 (St41.mk p ka sa ga da tA qs (S41.new h a s)) := ⟨ho, r2, r4, ⟨[], r5, True.intro⟩, ⟨[], r6, True.intro⟩, r7, by show qs.length = (List.replicate s.toNat ([] : List Int)).length; rw [List.length_replicate]; exact r8, fun j b xs h1 h2 => by
    have hx : xs = [] := by
      have := List.mem_of_getElem? h2
      exact (List.mem_replicate.mp this).2
    rw [hx]
    exact r9 b (List.mem_of_getElem? h1), nd⟩
  exact k (St41.mk p ka sa ga da tA qs (S41.new h a s)) rfl c.ll S1 _ H1 _ (k1.setOwns (v := .ref p) (x := St41.mk p ka sa ga da tA qs (S41.new h a s)) (ps := (St41.mk p ka sa ga da tA qs (S41.new h a s)).fp) ⟨rfl, rfl, c⟩ hi fun q hq => ⟨(hf q hq).1, (hf q hq).2.2.1, (hf q hq).2.1, (hf q hq).2.2.2⟩)
end
end GL
namespace GL
open PySem PySem.Spec PyProof.Rows L2
section
variable {K : Fg} {B S0 S1 S S' D : Hp} {σ : L2.St} {H H' : Hp} {F : Nat → List Addr} {G G' G1 G2 : List Sl} {ta tb tc te : TE} {i j : Nat} {t : TA} {u : TS} {E : Ends} {X : XK} {tt : TT} {w1 w2 : TS}
theorem ev_callOGU {ω α β : Type} [Own ω] [PyA α] [Py β] {z z1 : ω} {a : α} {R : ω → α → β → ω → Prop} {pre : ω → α → Prop} (i : Nat) (hi : G[i]? = some (.ow z)) (ha : EvAU K t G a G1) (hi1 : G1[i]? = some (.ow z1)) (hp : pre z1 a) :
    EvMv K (tCall (spO K R pre) [] X (tCons (tVar i) t)) G (fun w : β × ω => R z1 a w.1 w.2) (fun w => w.1) (fun w => G1.set i (.ow w.2)) := fun B S0 S σ H F kn Q q => by
  obtain ⟨v0, h1, _⟩ := kn.ow hi
  refine ⟨v0, h1, ha B S0 S σ H F kn _ fun vs S1 H1 F1 e1 k1 r1 => ?_⟩
  show spO K R pre (v0 :: vs ++ []) H1 Q X
  rw [List.append_nil]
  obtain ⟨v1, h3, h4⟩ := k1.ow hi1
  rw [h1] at h3
  cases h3
  exact ⟨S1, v0, vs, F1 i, z1, a, rfl, k1.sub, h4, fun p hp => ⟨(k1.off i p hp).1, (k1.off i p hp).2.2⟩, r1, hp, fun v S2 H2 ps' y z' hR s1 s2 hk hc hl ho r2 => q (y, z') hR v S2 H2 _ (e1.trans s1) (k1.moved hi1 h1 s1 s2 hk hc hl ho) r2⟩
theorem q_ifU {b : Bool} (h : EvTMv K tt G (fun _ : Unit => True) (fun _ => b) (fun _ => G1)) (h1 : b = true → At K B S0 (w1 { E with nx := u E }) G1) (h2 : b = false → At K B S0 (w2 { E with nx := u E }) G1) : At K B S0 (tSeq (tIfS tt w1 w2) u E) G := fun S σ H F kn =>
  h B S0 S σ H F kn _ fun _ _ S' H' F' e kn' => by
    cases b with
    | true => exact h1 rfl S' σ H' F' kn'
    | false => exact h2 rfl S' σ H' F' kn'
theorem eqv_there : PyData.eqv thereD.pd thereD.pd = true := pd_refl _
theorem eqv_on {x : Option Int} : PyData.eqv (onD x).pd thereD.pd = false := by
  unfold onD thereD
  cases x <;> simp [Dat.pd, pdL, PyData.eqv, PyData.eqvAll, ToD.dat]
theorem etu_there {x : Dat} {b : Bool} (ha : EvU K ta G x G1) (hx : (b = true ∧ x = thereD) ∨ (b = false ∧ ∃ y : Int, x = onD (some y))) : EvTMv K (tTest (tOp (rEqD K) ta (tTup (tCons (tC (.str (Str.ofString "there"))) tNil)))) G (fun _ : Unit => True) (fun _ => b) (fun _ => G1) := fun B S0 S σ H F kn Q q =>
  ha B S0 S σ H F kn _ fun _ _ v S1 H1 F1 e1 k1 r1 => (EvX.hvD ev_hv0) B S0 S1 σ H1 F1 k1 _ fun w S2 H2 e2 k2 r2 => by
    have s2 : SeqAt.shaped thereD.pd = true := (hv_pl ⟨none⟩).shaped (by decide)
    rcases hx with ⟨rfl, rfl⟩ | ⟨rfl, y, rfl⟩
    · exact ⟨_, _, (DRep.mono (e2.trans k2.sub) r1).dp, (DRep.mono k2.sub r2).dp, s2, s2, by
        show ∃ b, V.bl (PyData.eqv thereD.pd thereD.pd) = V.bl b ∧ Q b H2
        rw [eqv_there]
        exact ⟨true, rfl, q () True.intro S2 H2 F1 (e1.trans e2) k2⟩⟩
    · exact ⟨_, _, (DRep.mono (e2.trans k2.sub) r1).dp, (DRep.mono k2.sub r2).dp, (hv_pl ⟨some y⟩).shaped (by decide), s2, by
        show ∃ b, V.bl (PyData.eqv (onD (some y)).pd thereD.pd) = V.bl b ∧ Q b H2
        rw [eqv_on]
        exact ⟨false, rfl, q () True.intro S2 H2 F1 (e1.trans e2) k2⟩⟩
end
section
variable {K : Fg} {B S0 S1 S S' D : Hp} {σ : L2.St} {H H' : Hp} {F : Nat → List Addr} {G G' G1 G2 : List Sl} {ta tb tc te : TE}
theorem ev_toU {α : Type} [Py α] {x : α} (h : EvX K te G x G1) : EvU K te G x G1 := ev_toV h
theorem evu_pair {α β : Type} [Py α] [Py β] {x : α} {y : β} (ha : EvX K ta G x G) (hb : EvU K tb G y G1) : EvU K (tTup (tCons ta (tCons tb tNil))) G ((x, y) : α × β) G1 := fun B S0 S σ H F k Q q =>
  ha B S0 S σ H F k _ fun v S1 H1 e1 k1 r1 => hb B S0 S1 σ H1 F k1 _ fun _ _ w S2 H2 F2 e2 k2 r2 => ⟨by show 2 ≤ sizeLine; decide, fun p hp => by
    obtain ⟨a, b, c⟩ := k2.free hp
    exact q () True.intro (.ref p) _ _ F2 ((e1.trans e2).trans (same_new a)) (k2.new hp) ⟨p, v, w, rfl, SqT.of upd_same, Py.mono (e2.trans (same_new a)) r1, Py.mono (same_new a) r2⟩⟩
theorem evu_b0 {f : Int → Int → Bool} {a b : Int} (ha : EvU K ta G a G1) (hb : EvX K tb G1 b G1) : EvU K (tOp (rI0 fun i j => .bl (f i j)) ta tb) G (f a b) G1 := fun B S0 S σ H F k Q q =>
  ha B S0 S σ H F k _ fun _ _ v S1 H1 F1 e1 k1 r1 => hb B S0 S1 σ H1 F1 k1 _ fun u S2 H2 e2 k2 r2 => ⟨a, b, r1, r2, q () True.intro _ S2 H2 F1 (e1.trans e2) k2 rfl⟩
end
def noteM (s : S41) (i : Int) (o : Option Int) : S41 := match o with
  | none => s
  | some l => { s with taken := s.taken.set i.toNat (ix s.taken i ++ [l]) }
structure NoteP (z : St41) (i : Int) (o : Option Int) : Prop where
  ib : 0 ≤ i ∧ i < (z.m.taken.length : Int)
  tl : z.tl.length = z.m.taken.length
  he : ∀ l, o = some l → (z.m.here.get? l).isSome = true
  sz : (ix z.m.taken i).length < sizeLine
def HopR {C : Addr} (p : PostM C) (s : S41) (q : Int × Int) (b : Bool) (p' : PostM C) (s' : S41) : Prop := b = true ∧ ∀ n m t, Sim n p m → J41 n m s → s.going.get? q = some t →
  ∃ d m', Sim n p' m' ∧ Hp41 n m m' s q t d ∧ ((d = thereD ∧ s' = { s with going := s.going.del q, here := s.here.put q.1 true }) ∨ (d ≠ thereD ∧ s' = s))
def HopP41 {C : Addr} (p : PostM C) (s : S41) (q : Int × Int) : Prop := s.here.l.length < sizeLine ∧ ∃ n m t, Sim n p m ∧ J41 n m s ∧ s.going.get? q = some t
end GL
namespace GL
open PySem PySem.Spec PyProof.Rows L2
section
variable {K : Fg} {B S0 S1 S2 S S' D : Hp} {σ : L2.St} {H H2 H' : Hp} {F : Nat → List Addr} {G G' G1 G2 : List Sl} {ta tb tc te : TE} {i j l : Nat} {t : TA} {u : TS} {E : Ends} {X : XK}
theorem Kn.movedA {A : Nat → Option (List Addr)} (k1 : Kn K B S0 S1 σ H F G1) (s1 : Same S1 S2) (s2 : Same S2 H2) (hk : ∀ p o, (∀ k us, A k = some us → p ∉ F k) → H p = some o → H2 p = some o) (hc : ∀ p o, (∀ k us, A k = some us → p ∉ F k) → H p = some o → S2 p = S1 p)
    (hl : ∀ k us, A k = some us → ∀ p ∈ us, S2 p = none ∧ (∃ o, H2 p = some o) ∧ ((∃ j vs, A j = some vs ∧ p ∈ F j) ∨ H p = none)) (hd : ∀ a b us vs p, A a = some us → A b = some vs → p ∈ us → p ∈ vs → a = b) (hG : G2.length = G1.length)
    (hs : ∀ k s, G2[k]? = some s → (∃ us, A k = some us ∧ SlOk K S2 H2 σ[k]? us s) ∨ (A k = none ∧ G1[k]? = some s)) : Kn K B S0 S2 σ H2 (fun k => (A k).getD (F k)) G2 := by
  have hB : ∀ p, ((∃ j vs, A j = some vs ∧ p ∈ F j) ∨ H p = none) → B p = none := fun p hp => by
    rcases hp with ⟨j, vs, _, m⟩ | m
    · exact (k1.off j p m).2.1
    · exact (k1.free m).2.1
  have hN : ∀ p, ((∃ j vs, A j = some vs ∧ p ∈ F j) ∨ H p = none) → ∀ k, A k = none → p ∉ F k := fun p hp k c m => by
    rcases hp with ⟨j, vs, e, m'⟩ | m'
    · rw [k1.dj k j p m m', e] at c
      cases c
    · exact (k1.free m').2.2 k m
  have nB : ∀ p o, B p = some o → ∀ k us, A k = some us → p ∉ F k := fun p o e k us _ m => by
    rw [(k1.off k p m).2.1] at e
    cases e
  have nF : ∀ k p, A k = none → p ∈ F k → ∀ j us, A j = some us → p ∉ F j := fun k p c m j us e m' => by
    rw [k1.dj k j p m m', e] at c
    cases c
  refine ⟨k1.s0.trans s1, s2, fun p o e => hk p o (nB p o e) (k1.keep p o e), fun p o e => (hc p o (nB p o e) (k1.keep p o e)).trans (k1.clean p o e), fun k p hp => ?_, fun a b p ha hb => ?_, by rw [hG]; exact k1.len, fun k s e => ?_⟩
  · cases c : A k with
    | some us =>
      rw [c] at hp
      obtain ⟨a1, a2, a3⟩ := hl k us c p hp
      exact ⟨a1, hB p a3, a2⟩
    | none =>
      rw [c] at hp
      obtain ⟨a1, a2, o, a3⟩ := k1.off k p hp
      exact ⟨(hc p o (nF k p c hp) a3).trans a1, a2, o, hk p o (nF k p c hp) a3⟩
  · cases ca : A a with
    | some us =>
      rw [ca] at ha
      cases cb : A b with
      | some vs =>
        rw [cb] at hb
        exact hd a b us vs p ca cb ha hb
      | none =>
        rw [cb] at hb
        exact absurd hb (hN p (hl a us ca p ha).2.2 b cb)
    | none =>
      rw [ca] at ha
      cases cb : A b with
      | some vs =>
        rw [cb] at hb
        exact absurd ha (hN p (hl b vs cb p hb).2.2 a ca)
      | none =>
        rw [cb] at hb
        exact k1.dj a b p ha hb
  · rcases hs k s e with ⟨us, c, h⟩ | ⟨c, h⟩
    · show SlOk K S2 H2 σ[k]? ((A k).getD (F k)) s
      rw [c]
      exact h
    · show SlOk K S2 H2 σ[k]? ((A k).getD (F k)) s
      rw [c]
      have w := k1.sl k s h
      cases s with
      | no => exact True.intro
      | im y =>
        obtain ⟨u, b1, b2⟩ := w
        exact ⟨u, b1, Py.mono s1 b2⟩
      | ow y =>
        obtain ⟨u, b1, b2⟩ := w
        refine ⟨u, b1, Own.mono s1 (fun p hp => ?_) b2⟩
        obtain ⟨_, _, o, a3⟩ := k1.off k p hp
        rw [a3]
        exact hk p o (nF k p c hp) a3
end
def spO3 {ω η θ α β : Type} [Own ω] [Own η] [Own θ] [PyA α] [Py β] (K : Fg) (R : ω → η → θ → α → β → ω → η → θ → Prop) (pre : ω → η → θ → α → Prop) : Sp := fun vs H Q _ => ∃ (S : Hp) (v0 v1 v2 : V) (ws : List V) (P : Nat → List Addr) (z : ω) (y : η) (x : θ) (a : α),
  vs = v0 :: v1 :: v2 :: ws ∧ Same S H ∧ Own.own K S H v0 (P 0) z ∧ Own.own K S H v1 (P 1) y ∧ Own.own K S H v2 (P 2) x ∧ (∀ k p, p ∈ P k → k < 3 ∧ S p = none ∧ ∃ o, H p = some o) ∧ (∀ j k p, p ∈ P j → p ∈ P k → j = k) ∧ PyA.rep K S ws a ∧ pre z y x a ∧
  ∀ v S' H' (P' : Nat → List Addr) b z' y' x', R z y x a b z' y' x' → Same S S' → Same S' H' → (∀ p o, (∀ k, p ∉ P k) → H p = some o → H' p = some o) → (∀ p o, (∀ k, p ∉ P k) → H p = some o → S' p = S p) →
    (∀ k p, p ∈ P' k → S' p = none ∧ (∃ o, H' p = some o) ∧ ((∃ j, p ∈ P j) ∨ H p = none)) → (∀ j k p, p ∈ P' j → p ∈ P' k → j = k) →
    Own.own K S' H' v0 (P' 0) z' → Own.own K S' H' v1 (P' 1) y' → Own.own K S' H' v2 (P' 2) x' → Py.rep K S' v b → Q v H'
section
variable {K : Fg} {B S0 S1 S2 S S' D : Hp} {σ : L2.St} {H H2 H' : Hp} {F : Nat → List Addr} {G G' G1 G2 : List Sl} {ta tb tc te : TE} {i j l : Nat} {t : TA} {u : TS} {E : Ends} {X : XK}
variable {ω η θ : Type} [Own ω] [Own η] [Own θ] {z z1 : ω} {y y1 : η} {x x1 : θ}
def AF (i j l : Nat) (P : Nat → List Addr) (k : Nat) : Option (List Addr) := if k = i then some (P 0) else if k = j then some (P 1) else if k = l then some (P 2) else none
theorem ev_callO3 {α β : Type} [PyA α] [Py β] {a : α} {R : ω → η → θ → α → β → ω → η → θ → Prop} {pre : ω → η → θ → α → Prop} (i j l : Nat) (ij : i ≠ j) (il : i ≠ l) (jl : j ≠ l) (hi : G[i]? = some (.ow z)) (hj : G[j]? = some (.ow y)) (hl : G[l]? = some (.ow x)) (ha : EvA K t G a G1)
    (hi1 : G1[i]? = some (.ow z1)) (hj1 : G1[j]? = some (.ow y1)) (hl1 : G1[l]? = some (.ow x1)) (hp : pre z1 y1 x1 a) :
    EvMv K (tCall (spO3 K R pre) [] X (tCons (tVar i) (tCons (tVar j) (tCons (tVar l) t)))) G (fun w : β × ω × η × θ => R z1 y1 x1 a w.1 w.2.1 w.2.2.1 w.2.2.2) (fun w => w.1) (fun w => ((G1.set i (.ow w.2.1)).set j (.ow w.2.2.1)).set l (.ow w.2.2.2)) := fun B S0 S σ H F kn Q q => by
  obtain ⟨v0, h1, _⟩ := kn.ow hi
  obtain ⟨v1, h2, _⟩ := kn.ow hj
  obtain ⟨v2, h3, _⟩ := kn.ow hl
  refine ⟨v0, h1, v1, h2, v2, h3, ha B S0 S σ H F kn _ fun vs S1 H1 e1 k1 r1 => ?_⟩
  show spO3 K R pre (v0 :: v1 :: v2 :: vs ++ []) H1 Q X
  rw [List.append_nil]
  obtain ⟨u0, g1, o1⟩ := k1.ow hi1
  obtain ⟨u1, g2, o2⟩ := k1.ow hj1
  obtain ⟨u2, g3, o3⟩ := k1.ow hl1
  rw [h1] at g1
  rw [h2] at g2
  rw [h3] at g3
  cases g1
  cases g2
  cases g3
  have pick : ∀ k p, p ∈ (fun k => if k = 0 then F i else if k = 1 then F j else if k = 2 then F l else []) k → (k = 0 ∧ p ∈ F i) ∨ (k = 1 ∧ p ∈ F j) ∨ (k = 2 ∧ p ∈ F l) := fun k p h => by
    dsimp only at h
    by_cases c0 : k = 0
    · rw [if_pos c0] at h; exact .inl ⟨c0, h⟩
    · rw [if_neg c0] at h
      by_cases c1 : k = 1
      · rw [if_pos c1] at h; exact .inr (.inl ⟨c1, h⟩)
      · rw [if_neg c1] at h
        by_cases c2 : k = 2
        · rw [if_pos c2] at h; exact .inr (.inr ⟨c2, h⟩)
        · rw [if_neg c2] at h; cases h
  refine ⟨S1, v0, v1, v2, vs, (fun k => if k = 0 then F i else if k = 1 then F j else if k = 2 then F l else []), z1, y1, x1, a, rfl, k1.sub, o1, o2, o3, fun k p h => ?_, fun a b p ha hb => ?_, r1, hp, fun v S2 H2 P' b z' y' x' hR s1 s2 hk hc hm hd ho hy hx r2 => ?_⟩
  · rcases pick k p h with ⟨c, m⟩ | ⟨c, m⟩ | ⟨c, m⟩
    · exact ⟨by omega, (k1.off i p m).1, (k1.off i p m).2.2⟩
    · exact ⟨by omega, (k1.off j p m).1, (k1.off j p m).2.2⟩
    · exact ⟨by omega, (k1.off l p m).1, (k1.off l p m).2.2⟩
  · rcases pick a p ha with ⟨c, m⟩ | ⟨c, m⟩ | ⟨c, m⟩ <;> rcases pick b p hb with ⟨c', m'⟩ | ⟨c', m'⟩ | ⟨c', m'⟩ <;> first | exact c.trans c'.symm | exact absurd (k1.dj _ _ p m m') (by first | exact ij | exact ij.symm | exact il | exact il.symm | exact jl | exact jl.symm)
  · have eA : ∀ k us, AF i j l P' k = some us → (k = i ∧ us = P' 0) ∨ (k = j ∧ us = P' 1) ∨ (k = l ∧ us = P' 2) := fun k us e => by
      unfold AF at e
      by_cases c0 : k = i
      · rw [if_pos c0] at e; cases e; exact .inl ⟨c0, rfl⟩
      · rw [if_neg c0] at e
        by_cases c1 : k = j
        · rw [if_pos c1] at e; cases e; exact .inr (.inl ⟨c1, rfl⟩)
        · rw [if_neg c1] at e
          by_cases c2 : k = l
          · rw [if_pos c2] at e; cases e; exact .inr (.inr ⟨c2, rfl⟩)
          · rw [if_neg c2] at e; cases e
    have aI : AF i j l P' i = some (P' 0) := by unfold AF; rw [if_pos rfl]
    have aJ : AF i j l P' j = some (P' 1) := by unfold AF; rw [if_neg ij.symm, if_pos rfl]
    have aL : AF i j l P' l = some (P' 2) := by unfold AF; rw [if_neg il.symm, if_neg jl.symm, if_pos rfl]
    have nP : ∀ p, (∀ k us, AF i j l P' k = some us → p ∉ F k) → ∀ k, p ∉ (fun k => if k = 0 then F i else if k = 1 then F j else if k = 2 then F l else []) k := fun p h k m => by
      rcases pick k p m with ⟨_, m⟩ | ⟨_, m⟩ | ⟨_, m⟩
      · exact h i _ aI m
      · exact h j _ aJ m
      · exact h l _ aL m
    have src : ∀ p, ((∃ j', p ∈ (fun k => if k = 0 then F i else if k = 1 then F j else if k = 2 then F l else []) j') ∨ H1 p = none) → (∃ j' vs, AF i j l P' j' = some vs ∧ p ∈ F j') ∨ H1 p = none := fun p h => by
      rcases h with ⟨j', m⟩ | h
      · rcases pick j' p m with ⟨_, m⟩ | ⟨_, m⟩ | ⟨_, m⟩
        · exact .inl ⟨i, _, aI, m⟩
        · exact .inl ⟨j, _, aJ, m⟩
        · exact .inl ⟨l, _, aL, m⟩
      · exact .inr h
    have k2 : Kn K B S0 S2 σ H2 (fun k => (AF i j l P' k).getD (F k)) (((G1.set i (.ow z')).set j (.ow y')).set l (.ow x')) := k1.movedA s1 s2 (fun p o h e => hk p o (nP p h) e) (fun p o h e => hc p o (nP p h) e) (fun k us e p m => by
        rcases eA k us e with ⟨_, rfl⟩ | ⟨_, rfl⟩ | ⟨_, rfl⟩
        · exact ⟨(hm 0 p m).1, (hm 0 p m).2.1, src p (hm 0 p m).2.2⟩
        · exact ⟨(hm 1 p m).1, (hm 1 p m).2.1, src p (hm 1 p m).2.2⟩
        · exact ⟨(hm 2 p m).1, (hm 2 p m).2.1, src p (hm 2 p m).2.2⟩) (fun a b us vs p ea eb ma mb => by
        rcases eA a us ea with ⟨c, rfl⟩ | ⟨c, rfl⟩ | ⟨c, rfl⟩ <;> rcases eA b vs eb with ⟨c', rfl⟩ | ⟨c', rfl⟩ | ⟨c', rfl⟩ <;> first | exact c.trans c'.symm | exact absurd (hd _ _ p ma mb) (by decide)) (by simp only [List.length_set]) (fun k s e => by
        rcases set_get e with ⟨rfl, rfl⟩ | ⟨n1, e⟩
        · exact .inl ⟨_, aL, v2, h3, hx⟩
        · rcases set_get e with ⟨rfl, rfl⟩ | ⟨n2, e⟩
          · exact .inl ⟨_, aJ, v1, h2, hy⟩
          · rcases set_get e with ⟨rfl, rfl⟩ | ⟨n3, e⟩
            · exact .inl ⟨_, aI, v0, h1, ho⟩
            · exact .inr ⟨by unfold AF; rw [if_neg n3, if_neg n2, if_neg n1], e⟩)
    exact q (b, z', y', x') hR v S2 H2 _ (e1.trans s1) k2 r2
end
section
variable {P : Program} {w : World} {K : Fg} {mg : Str → Option Value} {base : Heap} {ω η θ α β : Type} [Own ω] [Rad ω] [Own η] [Rad η] [Own θ] [Rad θ] [Sls α] [Py β] {S H : Hp}
noncomputable def outB (Pf : Nat → List Addr) (H : Hp) : Hp := fun p => @ite _ (∃ k, p ∈ Pf k) (Classical.propDecidable _) none (H p)
theorem outB_in {Pf : Nat → List Addr} {p : Addr} (h : ∃ k, p ∈ Pf k) : outB Pf H p = none := by unfold outB; exact if_pos h
theorem outB_out {Pf : Nat → List Addr} {p : Addr} (h : ∀ k, p ∉ Pf k) : outB Pf H p = H p := by unfold outB; exact if_neg (fun ⟨k, m⟩ => h k m)
theorem start_knR3 {v0 v1 v2 : V} {Pf : Nat → List Addr} {z : ω} {y : η} {x : θ} {vs : List V} {a : α} {N : List Str} (e : Same S H) (ho : Own.own K S H v0 (Pf 0) z) (hy : Own.own K S H v1 (Pf 1) y) (hx : Own.own K S H v2 (Pf 2) x) (hP : ∀ k p, p ∈ Pf k → k < 3 ∧ S p = none ∧ ∃ o, H p = some o) (hd : ∀ j k p, p ∈ Pf j → p ∈ Pf k → j = k) (r : PyA.rep K S vs a) :
    Kn K (outB Pf H) S S (L2.start N (v0 :: v1 :: v2 :: vs)) H Pf (.ow z :: .ow y :: .ow x :: Sls.sls a ++ List.replicate (N.length - (PyA.n α + 3)) .no) := by
  obtain ⟨l, q⟩ := Sls.ok (H := H) r
  have hn := PyA.len r
  refine ⟨Same.refl _, e, fun p o hp => ?_, fun _ _ _ => rfl, fun i p hp => ?_, hd, ?_, fun i s hi => ?_⟩
  · by_cases m : ∃ k, p ∈ Pf k
    · rw [outB_in m] at hp; cases hp
    · rw [outB_out (fun k h => m ⟨k, h⟩)] at hp; exact hp
  · exact ⟨(hP i p hp).2.1, outB_in ⟨i, hp⟩, (hP i p hp).2.2⟩
  · unfold L2.start
    simp only [List.length_append, List.length_map, List.length_replicate, List.length_cons, l, hn]
  · unfold L2.start
    match i with
    | 0 =>
      simp only [List.cons_append, List.getElem?_cons_zero, Option.some.injEq] at hi
      subst hi
      exact ⟨v0, rfl, ho⟩
    | 1 =>
      simp only [List.cons_append, List.getElem?_cons_zero, List.getElem?_cons_succ, Option.some.injEq] at hi
      subst hi
      exact ⟨v1, rfl, hy⟩
    | 2 =>
      simp only [List.cons_append, List.getElem?_cons_zero, List.getElem?_cons_succ, Option.some.injEq] at hi
      subst hi
      exact ⟨v2, rfl, hx⟩
    | i + 3 =>
      simp only [List.cons_append, List.getElem?_cons_succ, List.map_cons] at hi ⊢
      have hnil : Pf (i + 3) = [] := by
        cases c : Pf (i + 3) with
        | nil => rfl
        | cons p ps =>
          have := (hP (i + 3) p (by rw [c]; exact List.mem_cons_self)).1
          omega
      by_cases c : i < (Sls.sls a).length
      · rw [List.getElem?_append_left c] at hi
        rw [List.getElem?_append_left (by rw [List.length_map, ← l]; exact c)]
        have := q i s hi
        rw [hnil]
        exact this
      · rw [List.getElem?_append_right (by omega)] at hi
        have : s = .no := by
          have := List.mem_of_getElem? hi
          exact List.eq_of_mem_replicate this
        subst this
        exact True.intro
theorem def_spR3 {x : Str} {st : Stmt} {N ps : List Str} {k : Nat} {R : ω → η → θ → α → β → ω → η → θ → Prop} {pre : ω → η → θ → α → Prop} (D : Def K mg x st ps) (S : FnScope N ps (defScope st)) (hn : PyA.n α + 3 = ps.length)
    (h : ∀ (fa : Addr) (cdv : Value) (A : Around) (outer : List Env) (s : Shared) (H : Hp) (E : XK), Room k (A.deeper (envOfC x (defScope st) s.heap.objs.size fa cdv)) →
      ∃ t, PSs (cxOf CX0 P w K mg base N x (defScope st) fa cdv A outer s H E).nox (defBody st) t ∧
        ∀ (z : ω) (y : η) (u : θ) (a : α), pre z y u a → ∀ (B S0 : Hp) (Q : VK), (∀ (G' : List Sl) b (z' : ω) (y' : η) (u' : θ), G'[0]? = some (.ow z') → G'[1]? = some (.ow y') → G'[2]? = some (.ow u') → Rad.ra z' = Rad.ra z → Rad.ra y' = Rad.ra y → Rad.ra u' = Rad.ra u → R z y u a b z' y' u' → RT K B S0 Q b G') →
          At K B S0 (t { nx := fun _ H' => Q .non H', rt := Q }) (.ow z :: .ow y :: .ow u :: Sls.sls a ++ List.replicate (N.length - (PyA.n α + 3)) .no)) :
    Cal P w K mg base (k + 1) x ps (spO3 K R pre) := by
  obtain ⟨fa, fd, m, Fu, b⟩ := D.ex
  refine ⟨fa, fd, m, Fu.ok S (fun vs H Q E ⟨S, v0, v1, v2, ws, Pf, z, y, u, a, e, _, _, _, _, _, _, r, _⟩ => by rw [e, List.length_cons, List.length_cons, List.length_cons, PyA.len r]; exact hn) fun cdv A outer s H vs Q E hr ⟨S', v0, v1, v2, ws, Pf, z, y, u, a, e, es, ho, hy, hu, hP, hd, r, hp, q⟩ => ?_, Fu.kp, b⟩
  subst e
  obtain ⟨t, h1, h2⟩ := h fa cdv A outer s H E hr
  refine ⟨t, h1, ?_⟩
  refine h2 z y u a hp _ S' Q (fun G' b z' y' u' hz hy' hu' ea eb ec hR S1 σ1 H1 F1 v k1 r1 => ?_) S' _ H _ (start_knR3 (N := N) es ho hy hu hP hd r)
  obtain ⟨w0, _, o1⟩ := k1.ow hz
  obtain ⟨w1, _, o2⟩ := k1.ow hy'
  obtain ⟨w2, _, o3⟩ := k1.ow hu'
  have ev0 : w0 = v0 := by rw [Rad.at_ o1, Rad.at_ ho, ea]
  have ev1 : w1 = v1 := by rw [Rad.at_ o2, Rad.at_ hy, eb]
  have ev2 : w2 = v2 := by rw [Rad.at_ o3, Rad.at_ hu, ec]
  rw [ev0] at o1
  rw [ev1] at o2
  rw [ev2] at o3
  have hB : ∀ p o, (∀ k, p ∉ Pf k) → H p = some o → outB Pf H p = some o := fun p o m e => by rw [outB_out m]; exact e
  refine q v S1 H1 F1 b z' y' u' hR k1.s0 k1.sub (fun p o m e => k1.keep p o (hB p o m e)) (fun p o m e => k1.clean p o (hB p o m e)) (fun i p m => ?_) (fun a b p ha hb => k1.dj a b p ha hb) o1 o2 o3 r1
  obtain ⟨a1, a2, a3⟩ := k1.off i p m
  refine ⟨a1, a3, ?_⟩
  by_cases c : ∃ k, p ∈ Pf k
  · exact .inl c
  · rw [outB_out (fun k h => c ⟨k, h⟩)] at a2
    exact .inr a2
end
end GL
namespace GL
open PySem PySem.Spec PyProof.Rows L2
structure Stt {C : Addr} (T : Nat) (n : Int) (p : PostM C) (m : PMd) (s : S41) : Prop where
  sim : Sim n p m
  j : J41 n m s
  sz : Szs T m
  g : s.going.l.length ≤ T
  h : s.here.l.length + s.going.l.length ≤ T
  k : 0 < m.known.length ∧ m.known.length ≤ 1000
section
variable {C : Addr} {T : Nat} {n : Int} {p p' : PostM C} {m : PMd} {s : S41} {i : Int}
theorem dct_put_len {α : Type} (d : Dct α) (k : Int) (x : α) : (d.put k x).l.length ≤ d.l.length + 1 := by
  unfold Dct.put
  dsimp only
  split
  · rw [List.length_map]; omega
  · rw [List.length_append]; exact Nat.le_refl _
theorem dn_del_len {α β : Type} [DecidableEq α] (d : DN α β) (k : α) : (d.del k).l.length ≤ d.l.length := List.length_filter_le ..
theorem dn_del_lt {α β : Type} [DecidableEq α] {d : DN α β} {k : α} (h : k ∈ d.l.map (·.1)) : (d.del k).l.length + 1 ≤ d.l.length := by
  obtain ⟨e, he, rfl⟩ := List.mem_map.mp h
  have : (d.l.filter fun x => !decide (x.1 = e.1)).length < d.l.length := by
    refine List.length_filter_lt_length_iff_exists.mpr ⟨e, he, by simp⟩
  exact this
theorem Stt.up (h : Stt T n p m s) : Stt (T + 1) n p m s := ⟨h.sim, h.j, h.sz.up, by have := h.g; omega, by have := h.h; omega, h.k⟩
theorem Stt.n2 (h : Stt T n p m s) : s.houses = n ∧ 2 ≤ n ∧ n ≤ 1000 := ⟨h.j.ho, h.sim.rd.n2⟩
theorem Stt.place (h : Stt T n p m s) : 0 ≤ s.place ∧ s.place < n := by rw [h.j.at_]; exact h.sim.rd.lastb
theorem Stt.to (h : Stt T n p m s) {c : Int} (hc : 0 ≤ c ∧ c < s.houses - 1) : (s.place + 1 + c) % s.houses ≠ lastI m.road ∧ 0 ≤ (s.place + 1 + c) % s.houses ∧ (s.place + 1 + c) % s.houses < n := by
  have h1 := h.n2
  have h2 := h.place
  have := mod_ne (a := s.place) (d := 1 + c) (n := s.houses) (by omega) (by omega)
  rw [show s.place + (1 + c) = s.place + 1 + c from by omega, h.j.at_] at this
  rw [h.j.at_]
  omega
theorem Stt.carry (h : Stt T n p m s) (hT : T < 900) {x : Int} (hx : x ≠ lastI m.road ∧ 0 ≤ x ∧ x < n) : postCarry p x = .inr ((), carryP p x) ∧ ∃ m', Stt (T + 1) n (carryP p x) m' { s with place := x, carried := s.carried + 1 } := by
  have hr := h.sz.r
  refine ⟨carry_eq h.sim.rd hx.1, { m with road := m.road ++ [x] }, h.sim.carry hx.2 (by omega), h.j.carry, ⟨by dsimp only; rw [List.length_append, List.length_singleton]; omega, by have := h.sz.l; dsimp only; omega, fun y hy => by have := h.sz.c y hy; omega⟩, by have := h.g; dsimp only; omega, by have := h.h; dsimp only; omega, h.k⟩
theorem Stt.learn (h : Stt T n p m s) : ∃ m', Stt (T + 1) n (learnP p i) m' { s with known := s.known.set i.toNat s.carried } :=
  ⟨_, h.sim.learn, h.j.learn, ⟨by have := h.sz.r; dsimp only; omega, by have := h.sz.l; dsimp only; omega, fun y hy => by have := h.sz.c y hy; omega⟩, by have := h.g; dsimp only; omega, by have := h.h; dsimp only; omega, by dsimp only; rw [List.length_set]; exact h.k⟩
theorem Stt.due (h : Stt T n p m s) : (ix p.due i).length ≤ T := by
  have hl := h.sz.l
  by_cases c : i.toNat < p.due.length
  · have := h.sim.due_len (ix p.due i) (by
      unfold ix
      rw [List.getD_eq_getElem?_getD, List.getElem?_eq_getElem c]
      exact List.getElem_mem c)
    omega
  · unfold ix
    rw [List.getD_eq_getElem?_getD, List.getElem?_eq_none (by omega)]
    exact Nat.zero_le _
theorem Stt.send (h : Stt T n p m s) (hT : T < 900) (hi : 0 ≤ i ∧ i < (m.known.length : Int)) : ∃ m', Stt (T + 1) n (sendP p i) m' { s with sent := s.sent ++ [i], going := s.going.put ((p.owners.length : Int), 0) (ix s.known i) } := by
  have hl := h.sz.l
  have hd := h.due (i := i)
  obtain ⟨h1, h2⟩ := h.sim.send hi (by omega) (by omega)
  rw [h1]
  refine ⟨_, h2, h.j.send h.sim hi, ⟨by have := h.sz.r; dsimp only; omega, by dsimp only; rw [List.length_append, List.length_singleton]; omega, fun y hy => ?_⟩, by have := h.g; exact Nat.le_trans (DN.put_len _ _ _) (by omega), by have := h.h; have h9 := DN.put_len s.going ((p.owners.length : Int), 0) (ix s.known i); rw [h1] at h9; dsimp only; omega, h.k⟩
  rcases List.mem_append.mp hy with hy | hy
  · have := h.sz.c y hy; omega
  · rw [List.mem_singleton.mp hy]
    show 1 ≤ T + 1 + 1
    omega
theorem Stt.double (h : Stt T n p m s) (hT : T < 900) (hk : 0 ≤ i ∧ i < (m.lets.length : Int)) : ∃ c p', postDouble p i = .inr (c, p') ∧ ∃ m', Stt (T + 1) n p' m' { s with going := s.going.put (i, c) (ix s.known (ix s.sent i)) } := by
  have hc := h.sz.c _ (ix_inP hk)
  obtain ⟨p', e, h2⟩ := h.sim.double hk (by omega)
  exact ⟨_, p', e, _, h2, h.j.double h.sim hk, h.sz.set (by dsimp only; rw [List.length_append, List.length_singleton]; omega), by have := h.g; exact Nat.le_trans (DN.put_len _ _ _) (by omega), by have := h.h; have h9 := DN.put_len s.going (i, ((ix m.lets i).cop.length : Int)) (ix s.known (ix s.sent i)); dsimp only; omega, h.k⟩
theorem takeD_szs (h : Szs T m) : Szs T (takeD m i).2 ∧ (takeD m i).2.known = m.known := by
  unfold takeD
  split
  · exact ⟨h, rfl⟩
  · exact ⟨⟨h.r, h.l, h.c⟩, rfl⟩
theorem Stt.take (h : Stt T n p m s) (hi : 0 ≤ i ∧ i < (m.known.length : Int)) : ∃ o p', postTake p i = .inr (o, p') ∧ (∀ l, o = some l → (s.here.get? l).isSome = true) ∧ ∃ m', Stt T n p' m' (noteM s i o) := by
  obtain ⟨p', e, h2⟩ := h.sim.take hi
  obtain ⟨z1, z2⟩ := takeD_szs (i := i) h.sz
  refine ⟨(takeD m i).1, p', e, ?_, (takeD m i).2, ?_⟩
  · rcases h.j.take h.sim hi with ⟨e1, _⟩ | ⟨l, e1, e2, _⟩
    · intro l e3; rw [e1] at e3; cases e3
    · intro l' e3; rw [e1] at e3; cases e3; exact e2
  · rcases h.j.take h.sim hi with ⟨e1, e2⟩ | ⟨l, e1, e2, e3⟩
    · rw [e1, e2]
      rw [e2] at h2
      exact ⟨h2, h.j, h.sz, h.g, h.h, h.k⟩
    · rw [e1]
      exact ⟨h2, e3, z1, h.g, h.h, by rw [z2]; exact h.k⟩
theorem Stt.hopP (h : Stt T n p m s) (hT : T < 900) {q : Int × Int} (hq : q ∈ s.going.l.map (·.1)) : HopP41 p s q := by
  obtain ⟨e, he, rfl⟩ := List.mem_map.mp hq
  exact ⟨lt_line (by have := h.h; omega), n, m, e.2, h.sim, h.j, dn_mem_get h.j.nd he⟩
theorem Stt.hop (h : Stt T n p m s) {q : Int × Int} (hq : q ∈ s.going.l.map (·.1)) {b : Bool} {s' : S41} (hr : HopR p s q b p' s') : b = true ∧ ∃ m' d t, Stt T n p' m' s' ∧ s.going.get? q = some t ∧ Hp41 n m m' s q t d ∧ ((d = thereD ∧ s' = { s with going := s.going.del q, here := s.here.put q.1 true }) ∨ (d ≠ thereD ∧ s' = s)) := by
  obtain ⟨e, he, rfl⟩ := List.mem_map.mp hq
  have hg := dn_mem_get h.j.nd he
  obtain ⟨hb, hf⟩ := hr
  obtain ⟨d, m', h1, h2, h3⟩ := hf n m e.2 h.sim h.j hg
  refine ⟨hb, m', d, e.2, ?_, hg, h2, h3⟩
  rcases h3 with ⟨hd, rfl⟩ | ⟨hd, rfl⟩
  · exact ⟨h1, h2.there hd, h2.sz T h.sz, by have := h.g; have := dn_del_len s.going e.1; dsimp only; omega, by have := h.h; have h8 := dn_del_lt (d := s.going) (k := e.1) (List.mem_map_of_mem he); have h9 := dct_put_len s.here e.1.1 true; dsimp only; omega, by rw [h2.kn]; exact h.k⟩
  · exact ⟨h1, (h2.on hd).1, h2.sz T h.sz, h.g, h.h, by rw [h2.kn]; exact h.k⟩
end
end GL
namespace GL
open PySem PySem.Spec PyProof.Rows L2
structure Rd41 (r : Int) (m : PMd) (s : S41) (pre post : List (Int × Int)) : Prop where
  a : ∀ q t, s.going.get? q = some t → (q ∈ pre ∧ r + 1 ≤ (cp41 m q).1) ∨ (q ∈ post ∧ r ≤ (cp41 m q).1)
  b : ∀ q ∈ post, q ∈ s.going.l.map (·.1)
  nd : (pre ++ post).Nodup
section
variable {C : Addr} {T : Nat} {n r : Int} {p p' : PostM C} {m m' : PMd} {s s' : S41} {i : Int} {q : Int × Int} {t : Int} {d : Dat} {pre post : List (Int × Int)}
theorem Rd41.start (h : ∀ q t, s.going.get? q = some t → r ≤ (cp41 m q).1) (hn : (s.going.l.map (·.1)).Nodup) : Rd41 r m s [] (srt2 (s.going.l.map (·.1))) :=
  ⟨fun q t e => .inr ⟨(srt2_perm _).mem_iff.mpr (List.mem_map.mpr ⟨_, dn_get_mem e, rfl⟩), h q t e⟩, fun q hq => (srt2_perm _).mem_iff.mp hq, by rw [List.nil_append]; exact (srt2_perm _).nodup_iff.mpr hn⟩
theorem Rd41.next (R : Rd41 r m s pre (q :: post)) (j : J41 n m s) (hp : Hp41 n m m' s q t d) (hg : s.going.get? q = some t) (hc : (d = thereD ∧ s' = { s with going := s.going.del q, here := s.here.put q.1 true }) ∨ (d ≠ thereD ∧ s' = s)) : Rd41 r m' s' (pre ++ [q]) post := by
  have hnd := R.nd
  have hq : q ∉ post := fun h => by
    have h1 := (List.nodup_append.mp hnd).2.1
    exact (List.nodup_cons.mp h1).1 h
  have key : ∀ q' t', q' ≠ q → s.going.get? q' = some t' → (q' ∈ pre ++ [q] ∧ r + 1 ≤ (cp41 m' q').1) ∨ (q' ∈ post ∧ r ≤ (cp41 m' q').1) := fun q' t' ne e => by
    obtain ⟨g1, g2, _⟩ := j.go q' t' e
    rw [hp.oth q' ne g1.1 g2.1]
    rcases R.a q' t' e with ⟨h1, h2⟩ | ⟨h1, h2⟩
    · exact .inl ⟨List.mem_append_left _ h1, h2⟩
    · rcases List.mem_cons.mp h1 with h1 | h1
      · exact absurd h1 ne
      · exact .inr ⟨h1, h2⟩
  have nd2 : ((pre ++ [q]) ++ post).Nodup := by rw [List.append_assoc]; exact hnd
  rcases hc with ⟨hd, rfl⟩ | ⟨hd, rfl⟩
  · refine ⟨fun q' t' e => ?_, fun q' h => ?_, nd2⟩
    · dsimp only at e
      rw [dn_get_del] at e
      by_cases c : q' = q
      · rw [if_pos c] at e; cases e
      · rw [if_neg c] at e
        exact key q' t' c e
    · obtain ⟨e, he, rfl⟩ := List.mem_map.mp (R.b q' (List.mem_cons_of_mem _ h))
      refine List.mem_map.mpr ⟨e, List.mem_filter.mpr ⟨he, ?_⟩, rfl⟩
      have : ¬ e.1 = q := fun z => hq (z ▸ h)
      simp [this]
  · refine ⟨fun q' t' e => ?_, fun q' h => R.b q' (List.mem_cons_of_mem _ h), nd2⟩
    by_cases c : q' = q
    · subst c
      have h1 := (hp.on hd).2
      left
      refine ⟨List.mem_append_right _ (by simp), ?_⟩
      rcases R.a q' t hg with ⟨_, h2⟩ | ⟨_, h2⟩ <;> omega
    · exact key q' t' c e
theorem Rd41.done (R : Rd41 r m s pre []) : ∀ q t, s.going.get? q = some t → r + 1 ≤ (cp41 m q).1 := fun q t e => by
  rcases R.a q t e with ⟨_, h⟩ | ⟨h, _⟩
  · exact h
  · cases h
theorem Stt.all (h : Stt T n p m s) (hr : ∀ q t, s.going.get? q = some t → s.carried + 1 ≤ (cp41 m q).1) : s.going.l = [] := by
  refine dn_emp (fun q t e => ?_) h.j.nd
  obtain ⟨g1, g2, _⟩ := h.j.go q t e
  have h1 := hr q t e
  have h2 := (h.sim.mo.lt _ (ix_inP g1)).2.2.2 _ (ix_inP g2)
  have h3 := h.j.ca
  unfold cp41 at h1
  omega
theorem Stt.here (h : Stt T n p m s) (hg : s.going.l = []) {l : Int} (hl : 0 ≤ l ∧ l < (m.lets.length : Int)) : (ix m.lets l).here = true := by
  rcases h.j.al l hl.1 hl.2 with e | e
  · unfold DN.get? at e
    rw [hg] at e
    cases e
  · exact e
theorem mine_len : (mineM m i).length ≤ m.lets.length := by
  unfold mineM
  refine Nat.le_trans (List.length_filter_le ..) ?_
  rw [len_rng]; omega
theorem Stt.takeA (h : Stt T n p m s) (hg : s.going.l = []) (hi : 0 ≤ i ∧ i < (m.known.length : Int)) : ∃ o p', postTake p i = .inr (o, p') ∧ (∀ l, o = some l → (s.here.get? l).isSome = true) ∧ ∃ m', Stt T n p' m' (noteM s i o) ∧ m'.lets = m.lets ∧ m'.known = m.known ∧ (noteM s i o).going = s.going ∧ (noteM s i o).sent = s.sent ∧ (noteM s i o).taken.length = s.taken.length ∧
    ∀ k : Nat, (((min k (mineM m i).length : Nat) : Int) ≤ ix m.taken i → ((min (k + 1) (mineM m i).length : Nat) : Int) ≤ ix m'.taken i) := by
  obtain ⟨p', e, h2⟩ := h.sim.take hi
  have hm := h.sim.mo.at_ i hi.1 (by rw [h.sim.mo.tk]; exact hi.2)
  obtain ⟨o1, p1, e1, hh, _⟩ := h.take hi
  rw [e] at e1
  obtain ⟨rfl, rfl⟩ : (takeD m i).1 = o1 ∧ p' = p1 := by cases e1; exact ⟨rfl, rfl⟩
  refine ⟨_, p', e, hh, (takeD m i).2, ?_, ?_⟩
  · rcases h.j.take h.sim hi with ⟨e1, e2⟩ | ⟨l, e1, e2, e3⟩
    · rw [e1, e2]
      rw [e2] at h2
      exact ⟨h2, h.j, h.sz, h.g, h.h, h.k⟩
    · rw [e1]
      obtain ⟨z1, z2⟩ := takeD_szs (i := i) h.sz
      exact ⟨h2, e3, z1, h.g, h.h, by rw [z2]; exact h.k⟩
  · have hls : (takeD m i).2.lets = m.lets ∧ (takeD m i).2.known = m.known := by
      unfold takeD
      split
      · exact ⟨rfl, rfl⟩
      · exact ⟨rfl, rfl⟩
    refine ⟨hls.1, hls.2, by unfold noteM; cases (takeD m i).1 <;> rfl, by unfold noteM; cases (takeD m i).1 <;> rfl, by unfold noteM; cases (takeD m i).1 <;> simp, fun k hk => ?_⟩
    unfold takeD
    by_cases c : ix m.taken i = ((mineM m i).length : Int)
    · rw [if_pos (.inl c), c]
      omega
    · have hb : 0 ≤ ix m.taken i ∧ ix m.taken i < ((mineM m i).length : Int) := by omega
      have hl := mine_in (ix_inP hb)
      have hh := h.here hg hl
      rw [if_neg (fun z => z.elim c (fun z => by rw [hh] at z; cases z))]
      show _ ≤ ix (m.taken.set i.toNat _) i
      rw [ix_setP (by rw [h.sim.mo.tk]; exact hi)]
      omega
theorem Stt.mine (h : Stt T n p m s) (hi : 0 ≤ i ∧ i < (m.known.length : Int)) (hk : (((mineM m i).length : Nat) : Int) ≤ ix m.taken i) : ix s.taken i = ((enumI s.sent).filter fun x => decide (x.2 = i)).map fun x => x.1 := by
  have hm := h.sim.mo.at_ i hi.1 (by rw [h.sim.mo.tk]; exact hi.2)
  rw [h.j.tk i hi.1 hi.2, List.take_of_length_le (by omega)]
  have e : ((enumI s.sent).filter fun x => decide (x.2 = i)) = (enumI s.sent).filter fun x => decide ((ix m.lets x.1).who = i) := by
    refine List.filter_congr fun x hx => ?_
    obtain ⟨h1, h2, h3⟩ := enum_at hx
    have h4 := ix_at (xs := s.sent) h1 h2
    rw [h3] at h4
    have h5 : x.2 = (ix m.lets x.1).who := by
      rw [Option.some.inj h4, h.j.se]
      exact ix_map (by rw [h.j.se, List.length_map] at h2; exact ⟨h1, h2⟩)
    rw [h5]
  rw [e]
  have := enum_fst (xs := s.sent) (g := fun k => decide ((ix m.lets k).who = i))
  rw [this]
  unfold mineM
  rw [h.j.se, List.length_map]
theorem Stt.start {a k : Int} (h : 2 ≤ n ∧ n ≤ 1000) (ha : 0 ≤ a ∧ a < n) (hs : 0 < k ∧ k ≤ 1000) : Stt 0 n (postNew n a k : PostM C) (modelM n a k) (S41.new n a k) := by
  refine ⟨Sim.start h ha (by omega), ⟨rfl, rfl, rfl, ?_, rfl, List.nodup_nil, fun q t e => (by cases e), fun l l0 l1 => ?_, fun l l0 l1 => ?_, ?_, fun i i0 i1 => ?_, rfl⟩, Szs.start, Nat.le_refl _, Nat.le_refl _, ?_⟩
  · show (List.replicate k.toNat [(0 : Int)]).flatten = List.replicate k.toNat 0
    exact rep_flatP _ _
  · exact absurd l1 (by show ¬ l < ((0 : Nat) : Int); omega)
  · exact absurd l1 (by show ¬ l < ((0 : Nat) : Int); omega)
  · show (List.replicate k.toNat ([] : List Int)).length = (List.replicate k.toNat (0 : Int)).length
    rw [List.length_replicate, List.length_replicate]
  · have e : mineM (modelM n a k) i = [] := by
      unfold mineM modelM
      rfl
    rw [e, List.take_nil]
    show ix (List.replicate k.toNat ([] : List Int)) i = []
    unfold ix
    rw [List.getD_eq_getElem?_getD]
    cases c : (List.replicate k.toNat ([] : List Int))[i.toNat]? with
    | none => rfl
    | some x => exact (List.mem_replicate.mp (List.mem_of_getElem? c)).2
  · show 0 < (List.replicate k.toNat (0 : Int)).length ∧ (List.replicate k.toNat (0 : Int)).length ≤ 1000
    rw [List.length_replicate]
    omega
end
end GL
namespace L41
open PySem PySem.Spec PyProof.Rows L2 GL
def topS (i : Nat) : Stmt := PySem.Challenge.pw_warmove_k41_whole_each_once_in_order.main.body.getD i (.Pass ⟨0, 0, 0, 0⟩)
abbrev s__law_spring : Stmt := topS 7
abbrev s__law_cup : Stmt := topS 8
abbrev s__law_start : Stmt := topS 9
abbrev s__law_step : Stmt := topS 10
abbrev s__law_note : Stmt := topS 11
abbrev s__law_hopped : Stmt := topS 12
abbrev s_law : Stmt := topS 13
abbrev s_Post___init__ : Stmt := inClass (topS 5) 0
abbrev s_Post_carry : Stmt := inClass (topS 5) 1
abbrev s_Post_send : Stmt := inClass (topS 5) 2
abbrev s_Post_need_letter : Stmt := inClass (topS 5) 3
abbrev s_Post_need_copy : Stmt := inClass (topS 5) 4
abbrev s_Post_double : Stmt := inClass (topS 5) 5
abbrev s_Post_hop : Stmt := inClass (topS 5) 6
abbrev s_Post_hops : Stmt := inClass (topS 5) 7
abbrev s_Post_learn : Stmt := inClass (topS 5) 8
abbrev s_Post_take : Stmt := inClass (topS 5) 9
structure Tx (K : Fg) (mg : Str → Option Value) (C : Addr) (Y : XC → Addr) : Prop where
  cl : Cls K C
  na : ∀ k ∈ postK, NoAttr K C k
  mk0 : ∃ (f : Addr) (fd : FuncData), Mk K C f ∧ Fun K "__init__" "Post.__init__" s_Post___init__ f fd ∧ Binds K fd ["self", "houses", "at", "senders"] [] ∧ mg "Post" = some (.ref C)
  m_Post_carry : MDef K C "carry" "Post.carry" s_Post_carry ["self", "to"]
  m_Post_send : MDef K C "send" "Post.send" s_Post_send ["self", "i"]
  m_Post_need_letter : MDef K C "need_letter" "Post.need_letter" s_Post_need_letter ["self", "letter"]
  m_Post_need_copy : MDef K C "need_copy" "Post.need_copy" s_Post_need_copy ["self", "letter", "copy"]
  m_Post_double : MDef K C "double" "Post.double" s_Post_double ["self", "letter"]
  m_Post_hop : MDef K C "hop" "Post.hop" s_Post_hop ["self", "letter", "copy"]
  m_Post_hops : MDef K C "hops" "Post.hops" s_Post_hops ["self", "letter", "copy"]
  m_Post_learn : MDef K C "learn" "Post.learn" s_Post_learn ["self", "i"]
  m_Post_take : MDef K C "take" "Post.take" s_Post_take ["self", "i"]
  d__law_spring : Def K mg "_law_spring" s__law_spring ["script", "k"]
  d__law_cup : Def K mg "_law_cup" s__law_cup ["spring", "many"]
  d__law_start : Def K mg "_law_start" s__law_start ["spring"]
  d__law_step : Def K mg "_law_step" s__law_step ["spring", "post", "state"]
  d__law_note : Def K mg "_law_note" s__law_note ["state", "i", "letter"]
  d__law_hopped : Def K mg "_law_hopped" s__law_hopped ["post", "state", "one"]
  d_law : Def K mg "law" s_law ["script"]
  n_enumerate : mg "enumerate" = none
  n_len : mg "len" = none
  n_max : mg "max" = none
  n_min : mg "min" = none
  n_range : mg "range" = none
  n_sorted : mg "sorted" = none
  x_noHouse : XCls K mg "NoHouse" (Y .noHouse)
  x_noLetter : XCls K mg "NoLetter" (Y .noLetter)
end L41
namespace L41
open PySem PySem.Spec PyProof.Rows L2 GL
theorem sc_Post___init__ : FnScope ["self", "houses", "at", "senders", "sender"] ["self", "houses", "at", "senders"] (defScope s_Post___init__) := ⟨rfl, rfl, rfl, by decide +kernel, rfl, by decide +kernel, by decide +kernel⟩
set_option maxHeartbeats 4000000 in
theorem ok_Post {P : Program} {w : World} {K : Fg} {mg : Str → Option Value} {base : Heap} {C : Addr} {Y : XC → Addr} (T : Tx K mg C Y) : ICal P w K mg base 1 C "Post" ["self", "houses", "at", "senders"] (spMk K Y C (fun a : Int × Int × Int × Unit => (postNew a.1 a.2.1 a.2.2.1 : PostM C)) (fun a => 0 ≤ a.1 ∧ a.1 ≤ 1000 ∧ 0 ≤ a.2.2.1 ∧ a.2.2.1 ≤ 1000)) := by
  obtain ⟨f, fd, M, F, b, m⟩ := T.mk0
  have nd := sc_Post___init__.nd
  refine ⟨f, fd, M, m, idef_spMk (k := 0) F sc_Post___init__ rfl fun cdv A outer s H E hr => ?_, b⟩
  refine ⟨_, pss_cons (ps_fld (pv 0) (pe_op op_rep (pe_lst (pa_cons pe_non pa_nil)) (pv 1)) rfl)
    (pss_cons (ps_fld (pv 0) (pv 2) rfl)
    (pss_cons (ps_fld (pv 0) (pe_int) rfl)
    (pss_cons (ps_fld (pv 0) (pe_op op_rep (pe_lst (pa_cons (pv 2) pa_nil)) (pv 3)) rfl)
    (pss_cons (ps_fld (pv 0) (pe_lst pa_nil) rfl)
    (pss_cons (ps_fld (pv 0) (pe_lst pa_nil) rfl)
    (pss_cons (ps_fld (pv 0) (pe_lst pa_nil) rfl)
    (pss_cons (ps_fld (pv 0) (pe_lst pa_nil) rfl)
    (pss_cons (ps_fld (pv 0) (pe_lc (own := [("sender", 4)]) (g := gName 4) (by rfl) nd (pi_range1 (by rfl) T.n_range (pa_cons (pv 3) pa_nil)) (blkOk_by (N := ["self", "houses", "at", "senders", "sender"]) (sc := defScope s_Post___init__) (by decide +kernel)) (fun _ _ _ _ _ => pg_name (i := 4) nd rfl (.inl rfl) (.inr rfl)) (fun _ _ _ _ _ => pts_nil) (fun _ _ _ _ _ => pe_lst pa_nil)) rfl)
    (pss_nil))))))))), ?_⟩
  rintro a dx ⟨houses, at_, senders, _⟩ cl hp B S0 Q hret
  obtain ⟨h1, h2, h3, h4⟩ : 0 ≤ houses ∧ houses ≤ 1000 ∧ 0 ≤ senders ∧ senders ≤ 1000 := hp
  show At _ _ _ _ [.ow (Nd.mk a (.obj C dx []) []), .im houses, .im at_, .im senders, .no]
  refine q_fnewT (EvL.tn (el_rep (EvL.ev (el_lst (els_cons (ev_none (α := Int)) els_nil) (by simp))) (ev_var (i := 1) rfl) (by omega) (one_line h2))) rfl (T.na _ (by decide +kernel)) cl (by decide) (by decide +kernel) fun x0 e0 => ?_
  rw [rep_flatP] at e0
  obtain ⟨a0, rfl⟩ := er_lvs e0
  refine q_fnew (ev_var (i := 2) rfl) rfl (T.na _ (by decide +kernel)) cl (by decide) (by decide +kernel) ?_
  refine q_fnew (ev_int) rfl (T.na _ (by decide +kernel)) cl (by decide) (by decide +kernel) ?_
  refine q_fnewT (EvL.tn (el_rep (EvL.ev (el_lst (els_cons (ev_var (i := 2) rfl) els_nil) (by simp))) (ev_var (i := 3) rfl) (by omega) (one_line h4))) rfl (T.na _ (by decide +kernel)) cl (by decide) (by decide +kernel) fun x3 e3 => ?_
  rw [rep_flatP] at e3
  obtain ⟨a3, rfl⟩ := er_lvs e3
  refine q_fnewT (EvL.tn (el_lst (els_nil (α := Int)) (by simp))) rfl (T.na _ (by decide +kernel)) cl (by decide) (by decide +kernel) fun x4 e4 => ?_
  obtain ⟨a4, rfl⟩ := er_lvs e4
  refine q_fnewT (EvL.tn (el_lst (els_nil (α := Int)) (by simp))) rfl (T.na _ (by decide +kernel)) cl (by decide) (by decide +kernel) fun x5 e5 => ?_
  obtain ⟨a5, rfl⟩ := er_lvs e5
  refine q_fnewT (EvL.tn (el_lst (els_nil (α := Int)) (by simp))) rfl (T.na _ (by decide +kernel)) cl (by decide) (by decide +kernel) fun x6 e6 => ?_
  obtain ⟨a6, rfl⟩ := er_lvs e6
  refine q_fnewT (EvL.tn (el_lst (els_nil (α := Bool)) (by simp))) rfl (T.na _ (by decide +kernel)) cl (by decide) (by decide +kernel) fun x7 e7 => ?_
  obtain ⟨a7, rfl⟩ := er_lvs e7
  refine q_fnewT (en_lcE (it_rng1 (ev_var (i := 3) rfl) (by omega)) (by rw [rng_len0]; omega) (fun x hm_x => ⟨_, _, tg_name rfl, (by decide)⟩)) rfl (T.na _ (by decide +kernel)) cl (by decide) (by decide +kernel) fun x8 e8 => ?_
  rw [rng_len0] at e8
  obtain ⟨a8, L8, rfl, n8⟩ := nl_rep (α := Int) e8
  refine q_next ?_
  exact hret _ _ rfl rfl ⟨⟨dx, a0, a3, a4, a5, a6, a7, a8, [], [], L8⟩, rfl, ⟨rfl, rfl, n8⟩⟩
theorem sc_Post_carry : FnScope ["self", "to"] ["self", "to"] (defScope s_Post_carry) := ⟨rfl, rfl, rfl, by decide +kernel, rfl, by decide +kernel, by decide +kernel⟩
section
variable {P : Program} {w : World} {K : Fg} {mg : Str → Option Value} {base : Heap}
set_option maxHeartbeats 4000000 in
theorem ok_Post_carry {C : Addr} {Y : XC → Addr} (T : Tx K mg C Y)  : MCalX P w K mg base 1 C "carry" ["self", "to"] (spT K Y (fun (z : PostM C) (a : Int × Unit) => (postCarry z a.1 : XC ⊕ (Unit × PostM C))) (fun (z : PostM C) (a : Int × Unit) => PostOk z)) := by
  have nd := sc_Post_carry.nd
  refine mdef_spOR (k := 0) T.m_Post_carry sc_Post_carry rfl fun fa cdv A outer s H E hr => ?_
  refine ⟨_, pss_cons (ps_if (pt_cmpR op_eq (pv 1) (pe_fld (pv 0) rfl) (nomark _)) (pss_cons (ps_raiseX T.x_noHouse rfl (takes_of rfl rfl rfl rfl) rfl) (pss_nil)) (pss_nil))
    (pss_cons (ps_fldaug (pv 0) pe_int in_addI)
    (pss_cons (ps_asg (pv 1) (pg_sub (pe_fld (pv 0) rfl) (pe_fld (pv 0) rfl) set_list))
    (pss_cons (ps_fld (pv 0) (pv 1) rfl) (pss_nil)))), ?_⟩
  rintro self ⟨to, _⟩ hpre B S0 Q hret herr
  have hpre : PostOk self.m := hpre
  show At _ _ _ _ [.ow self, .im to]
  refine q_openP 0 rfl fun y ok => ?_
  show At _ _ _ _ [.ow (pnd self.a y self.m), .im to]
  refine q_if (et_test (ev_eq (ev_var (i := 1) rfl) (xp_at rfl))) (fun hb0 => ?_) (fun hb0 => ?_)
  · refine q_raise ?_
    exact at_closeP 0 rfl ok (herr _ _ _ rfl rfl (by show postCarry self.m to = _; unfold postCarry; rw [if_pos (of_decide_eq_true hb0)]))
  · refine q_next ?_
    refine sp_carr rfl (ev_int) ?_
    show At _ _ _ _ [.ow (pnd self.a y { self.m with carr := self.m.carr + 1 }), .im to]
    refine sp_leads rfl (xp_at rfl) (EvX.some (ev_var (i := 1) rfl)) hpre.at_ ?_
    show At _ _ _ _ [.ow (pnd self.a y { self.m with carr := self.m.carr + 1, leads := self.m.leads.set self.m.at_.toNat (some to) }), .im to]
    refine sp_at rfl (ev_var (i := 1) rfl) ?_
    refine q_next ?_
    refine at_closeP (y := y) (p := { self.m with carr := self.m.carr + 1, leads := self.m.leads.set self.m.at_.toNat (some to), at_ := to }) 0 rfl ⟨ok.n5, ok.n6, ok.n8⟩ ?_
    exact fun S_ σ_ H_ F_ k_ => hret _ () (Ob.mk self.a { self.m with carr := self.m.carr + 1, leads := self.m.leads.set self.m.at_.toNat (some to), at_ := to }) rfl rfl ⟨by show postCarry self.m to = _; unfold postCarry; rw [if_neg (of_decide_eq_false hb0)], rfl⟩ S_ σ_ H_ F_ .non k_ rfl
end
theorem sc_Post_send : FnScope ["self", "i", "letter"] ["self", "i"] (defScope s_Post_send) := ⟨rfl, rfl, rfl, by decide +kernel, rfl, by decide +kernel, by decide +kernel⟩
section
variable {P : Program} {w : World} {K : Fg} {mg : Str → Option Value} {base : Heap}
set_option maxHeartbeats 4000000 in
theorem ok_Post_send {C : Addr} {Y : XC → Addr} (T : Tx K mg C Y)  : MCalX P w K mg base 1 C "send" ["self", "i"] (spT K Y (fun (z : PostM C) (a : Int × Unit) => (postSend z a.1 : XC ⊕ (Int × PostM C))) (fun (z : PostM C) (a : Int × Unit) => PostOk z ∧ 0 ≤ a.1 ∧ a.1 < (z.known.length : Int))) := by
  have nd := sc_Post_send.nd
  refine mdef_spOR (k := 0) T.m_Post_send sc_Post_send rfl fun fa cdv A outer s H E hr => ?_
  refine ⟨_, pss_cons (ps_set (i := 2) nd rfl (.inl rfl) (pe_callB call_lenG (by rfl) T.n_len (by decide +kernel) (pa_cons (pe_fld (pv 0) rfl) pa_nil)))
    (pss_cons (ps_expr (pe_bm PySem.F.plainAttrs_list PySem.F.slot_list_append PySem.F.type_list_append mt_append (pe_fld (pv 0) rfl) (pa_cons (pv 1) pa_nil)))
    (pss_cons (ps_expr (pe_bm PySem.F.plainAttrs_list PySem.F.slot_list_append PySem.F.type_list_append mt_append (pe_fld (pv 0) rfl) (pa_cons (pe_lst (pa_cons (pe_ix (r := rIxL K) ix_list (pe_fld (pv 0) rfl) (pv 1) (fun _ _ => rfl)) pa_nil)) pa_nil)))
    (pss_cons (ps_expr (pe_bm PySem.F.plainAttrs_list PySem.F.slot_list_append PySem.F.type_list_append mt_append (pe_fld (pv 0) rfl) (pa_cons (pe_lst (pa_cons pe_int pa_nil)) pa_nil)))
    (pss_cons (ps_expr (pe_bm PySem.F.plainAttrs_list PySem.F.slot_list_append PySem.F.type_list_append mt_append (pe_fld (pv 0) rfl) (pa_cons (pe_bl) pa_nil)))
    (pss_cons (ps_expr (pe_bm PySem.F.plainAttrs_list PySem.F.slot_list_append PySem.F.type_list_append mt_append (pe_ix (r := rIxL K) ix_list (pe_fld (pv 0) rfl) (pv 1) (fun _ _ => rfl)) (pa_cons (pv 2) pa_nil)))
    (pss_cons (ps_ret (pv 2)) (pss_nil))))))), ?_⟩
  rintro self ⟨i, _⟩ hpre B S0 Q hret herr
  obtain ⟨hok, hi⟩ : PostOk self.m ∧ 0 ≤ i ∧ i < (self.m.known.length : Int) := hpre
  have hs := hok.sz
  have hdl := hok.dl (i := i) (by rw [← hok.kd]; exact hi)
  show At _ _ _ _ [.ow self, .im i, .no]
  refine q_openP 0 rfl fun y ok => ?_
  show At _ _ _ _ [.ow (pnd self.a y self.m), .im i, .no]
  refine qg_set 2 (xp_lenO rfl) rfl fun letter h_letter => ?_
  show At _ _ _ _ [.ow (pnd self.a y self.m), .im i, .im letter]
  refine sp_ownersA rfl (ev_var (i := 1) rfl) (by exact lt_line (by omega)) ?_
  show At _ _ _ _ [.ow (pnd self.a y { self.m with owners := self.m.owners ++ [i] }), .im i, .im letter]
  refine sp_copA (c := [some (ix self.m.known i)]) rfl ⟨ok.n5, ok.n6, ok.n8⟩ (en_lst (els_cons (EvX.some (xp_known (p := { self.m with owners := self.m.owners ++ [i] }) rfl (ev_var (i := 1) rfl) hi)) els_nil) (by simp)) (by exact lt_line (by rw [← hok.oc]; omega)) fun y1 ok1 => ?_
  show At _ _ _ _ [.ow (pnd self.a y1 { self.m with owners := self.m.owners ++ [i], copies := self.m.copies ++ [[some (ix self.m.known i)]] }), .im i, .im letter]
  refine sp_manyA (c := [0]) rfl ⟨ok1.n5, ok1.n6, ok1.n8⟩ (en_lst (els_cons ev_int els_nil) (by simp)) (by exact lt_line (by rw [← hok.om]; omega)) fun y2 ok2 => ?_
  show At _ _ _ _ [.ow (pnd self.a y2 { self.m with owners := self.m.owners ++ [i], copies := self.m.copies ++ [[some (ix self.m.known i)]], many := self.m.many ++ [[0]] }), .im i, .im letter]
  refine sp_hereA rfl ev_bl (by exact lt_line (by rw [← hok.oh]; omega)) ?_
  show At _ _ _ _ [.ow (pnd self.a y2 { self.m with owners := self.m.owners ++ [i], copies := self.m.copies ++ [[some (ix self.m.known i)]], many := self.m.many ++ [[0]], here := self.m.here ++ [false] }), .im i, .im letter]
  refine sp_dueA rfl (ev_var (i := 1) rfl) ⟨ok2.n5, ok2.n6, ok2.n8⟩ (ev_var (i := 2) rfl) (by rw [← hok.kd]; exact hi) (by exact lt_line (by dsimp only; omega)) fun y3 ok3 => ?_
  exact q_ret (ev_var (i := 2) rfl) (rt_closeP 0 rfl ok3 (hret _ _ _ rfl rfl ⟨by rw [h_letter]; rfl, rfl⟩))
end
theorem sc_Post_need_letter : FnScope ["self", "letter"] ["self", "letter"] (defScope s_Post_need_letter) := ⟨rfl, rfl, rfl, by decide +kernel, rfl, by decide +kernel, by decide +kernel⟩
section
variable {P : Program} {w : World} {K : Fg} {mg : Str → Option Value} {base : Heap}
set_option maxHeartbeats 4000000 in
theorem ok_Post_need_letter {C : Addr} {Y : XC → Addr} (T : Tx K mg C Y)  : MCalX P w K mg base 1 C "need_letter" ["self", "letter"] (spT K Y (fun (z : PostM C) (a : Int × Unit) => (postLetter z a.1 : XC ⊕ (Unit × PostM C))) (fun (z : PostM C) (a : Int × Unit) => True)) := by
  have nd := sc_Post_need_letter.nd
  refine mdef_spOR (k := 0) T.m_Post_need_letter sc_Post_need_letter rfl fun fa cdv A outer s H E hr => ?_
  refine ⟨_, pss_cons (ps_if (pt_not (pt_chain op_le op_lt (pe_int) (pv 1) (pe_callB call_lenG (by rfl) T.n_len (by decide +kernel) (pa_cons (pe_fld (pv 0) rfl) pa_nil)))) (pss_cons (ps_raiseX T.x_noLetter rfl (takes_of rfl rfl rfl rfl) rfl) (pss_nil)) (pss_nil))
    (pss_nil), ?_⟩
  rintro self ⟨letter, _⟩ hpre B S0 Q hret herr
  show At _ _ _ _ [.ow self, .im letter]
  refine q_openP 0 rfl fun y ok => ?_
  show At _ _ _ _ [.ow (pnd self.a y self.m), .im letter]
  refine q_if (et_not (et_test (ev_chain ev_int (ev_var (i := 1) rfl) (xp_lenO rfl)))) (fun hb0 => ?_) (fun hb0 => ?_)
  · refine q_raise ?_
    exact at_closeP 0 rfl ok (herr _ _ _ rfl rfl (by show postLetter self.m letter = _; unfold postLetter; rw [if_neg (ch_no hb0)]))
  · refine q_next ?_
    refine q_next ?_
    refine at_closeP 0 rfl ok ?_
    exact fun S_ σ_ H_ F_ k_ => hret _ () (Ob.mk self.a self.m) rfl rfl ⟨by show postLetter self.m letter = _; unfold postLetter; rw [if_pos (ch_yes hb0)], rfl⟩ S_ σ_ H_ F_ .non k_ rfl
end
theorem sc_Post_need_copy : FnScope ["self", "letter", "copy"] ["self", "letter", "copy"] (defScope s_Post_need_copy) := ⟨rfl, rfl, rfl, by decide +kernel, rfl, by decide +kernel, by decide +kernel⟩
section
variable {P : Program} {w : World} {K : Fg} {mg : Str → Option Value} {base : Heap}
set_option maxHeartbeats 4000000 in
theorem ok_Post_need_copy {C : Addr} {Y : XC → Addr} (T : Tx K mg C Y) (c_Post_need_letter : MCalX P w K mg base 1 C "need_letter" ["self", "letter"] (spT K Y (fun (z : PostM C) (a : Int × Unit) => (postLetter z a.1 : XC ⊕ (Unit × PostM C))) (fun (z : PostM C) (a : Int × Unit) => True))) : MCalX P w K mg base 2 C "need_copy" ["self", "letter", "copy"] (spT K Y (fun (z : PostM C) (a : Int × Int × Unit) => (postCopy z a.1 a.2.1 : XC ⊕ (Unit × PostM C))) (fun (z : PostM C) (a : Int × Int × Unit) => PostOk z)) := by
  have nd := sc_Post_need_copy.nd
  refine mdef_spOR (k := 1) T.m_Post_need_copy sc_Post_need_copy rfl fun fa cdv A outer s H E hr => ?_
  refine ⟨_, pss_cons (ps_expr (pe_mcalX c_Post_need_letter T.cl (takes_of rfl rfl rfl rfl) hr (by decide) (pv 0) (pa_cons (pv 1) pa_nil)))
    (pss_cons (ps_if (pt_not (pt_chain op_le op_lt (pe_int) (pv 2) (pe_callB call_lenG (by rfl) T.n_len (by decide +kernel) (pa_cons (pe_ix (r := rIxL K) ix_list (pe_fld (pv 0) rfl) (pv 1) (fun _ _ => rfl)) pa_nil)))) (pss_cons (ps_raiseX T.x_noLetter rfl (takes_of rfl rfl rfl rfl) rfl) (pss_nil)) (pss_nil))
    (pss_nil)), ?_⟩
  rintro self ⟨letter, copy, _⟩ hpre B S0 Q hret herr
  have hok : PostOk self.m := hpre
  show At _ _ _ _ [.ow self, .im letter, .im copy]
  refine q_methT (by decide +kernel) rfl (ea_cons (ev_var (i := 1) rfl) ea_nil) rfl rfl trivial (fun y_ n hE => ?_) (fun e hE => ?_)
  · obtain ⟨hn, hl⟩ := letter_ok hE
    subst hn
    show At _ _ _ _ [.ow self, .im letter, .im copy]
    refine q_openP 0 rfl fun y ok => ?_
    show At _ _ _ _ [.ow (pnd self.a y self.m), .im letter, .im copy]
    refine q_if (et_not (et_test (ev_chain ev_int (ev_var (i := 2) rfl) (xp_lenC rfl (ev_var (i := 1) rfl) ok (by rw [← hok.oc]; exact hl))))) (fun hb0 => ?_) (fun hb0 => ?_)
    · refine q_raise ?_
      exact at_closeP 0 rfl ok (herr _ _ _ rfl rfl (by show postCopy self.m letter copy = _; unfold postCopy; rw [if_neg (fun h => ch_no hb0 h.2)]))
    · refine q_next ?_
      refine q_next ?_
      refine at_closeP 0 rfl ok ?_
      exact fun S_ σ_ H_ F_ k_ => hret _ () (Ob.mk self.a self.m) rfl rfl ⟨by show postCopy self.m letter copy = _; unfold postCopy; rw [if_pos ⟨hl, ch_yes hb0⟩], rfl⟩ S_ σ_ H_ F_ .non k_ rfl
  · obtain ⟨he, hl⟩ := letter_no hE
    subst he
    exact herr _ _ _ rfl rfl (by show postCopy self.m letter copy = _; unfold postCopy; rw [if_neg (fun h => hl h.1)])
end
theorem sc_Post_double : FnScope ["self", "letter"] ["self", "letter"] (defScope s_Post_double) := ⟨rfl, rfl, rfl, by decide +kernel, rfl, by decide +kernel, by decide +kernel⟩
section
variable {P : Program} {w : World} {K : Fg} {mg : Str → Option Value} {base : Heap}
set_option maxHeartbeats 4000000 in
theorem ok_Post_double {C : Addr} {Y : XC → Addr} (T : Tx K mg C Y) (c_Post_need_letter : MCalX P w K mg base 1 C "need_letter" ["self", "letter"] (spT K Y (fun (z : PostM C) (a : Int × Unit) => (postLetter z a.1 : XC ⊕ (Unit × PostM C))) (fun (z : PostM C) (a : Int × Unit) => True))) : MCalX P w K mg base 2 C "double" ["self", "letter"] (spT K Y (fun (z : PostM C) (a : Int × Unit) => (postDouble z a.1 : XC ⊕ (Int × PostM C))) (fun (z : PostM C) (a : Int × Unit) => PostOk z)) := by
  have nd := sc_Post_double.nd
  refine mdef_spOR (k := 1) T.m_Post_double sc_Post_double rfl fun fa cdv A outer s H E hr => ?_
  refine ⟨_, pss_cons (ps_expr (pe_mcalX c_Post_need_letter T.cl (takes_of rfl rfl rfl rfl) hr (by decide) (pv 0) (pa_cons (pv 1) pa_nil)))
    (pss_cons (ps_expr (pe_bm PySem.F.plainAttrs_list PySem.F.slot_list_append PySem.F.type_list_append mt_append (pe_ix (r := rIxL K) ix_list (pe_fld (pv 0) rfl) (pv 1) (fun _ _ => rfl)) (pa_cons (pe_ix (r := rIxL K) ix_list (pe_fld (pv 0) rfl) (pe_ix (r := rIxL K) ix_list (pe_fld (pv 0) rfl) (pv 1) (fun _ _ => rfl)) (fun _ _ => rfl)) pa_nil)))
    (pss_cons (ps_expr (pe_bm PySem.F.plainAttrs_list PySem.F.slot_list_append PySem.F.type_list_append mt_append (pe_ix (r := rIxL K) ix_list (pe_fld (pv 0) rfl) (pv 1) (fun _ _ => rfl)) (pa_cons (pe_int) pa_nil)))
    (pss_cons (ps_ret (pe_op op_sub (pe_callB call_lenG (by rfl) T.n_len (by decide +kernel) (pa_cons (pe_ix (r := rIxL K) ix_list (pe_fld (pv 0) rfl) (pv 1) (fun _ _ => rfl)) pa_nil)) pe_int)) (pss_nil)))), ?_⟩
  rintro self ⟨letter, _⟩ hpre B S0 Q hret herr
  have hok : PostOk self.m := hpre
  show At _ _ _ _ [.ow self, .im letter]
  refine q_methT (by decide +kernel) rfl (ea_cons (ev_var (i := 1) rfl) ea_nil) rfl rfl trivial (fun y_ n hE => ?_) (fun e hE => ?_)
  case refine_2 =>
    obtain ⟨he, hl⟩ := letter_no hE
    subst he
    exact herr _ _ _ rfl rfl (by show postDouble self.m letter = _; unfold postDouble; rw [if_neg hl])
  obtain ⟨hn, hl⟩ := letter_ok hE
  subst hn
  have bl : 0 ≤ letter ∧ letter < (self.m.copies.length : Int) := by rw [← hok.oc]; exact hl
  have bm : 0 ≤ letter ∧ letter < (self.m.many.length : Int) := by rw [← hok.om]; exact hl
  have bk := hok.ow _ (ix_inP hl)
  have sz := hok.sz.2.1 _ (ix_inP bl)
  have sz2 : (ix self.m.many letter).length ≤ 10000 := by rw [← hok.cm_ix letter bl bm]; exact sz
  show At _ _ _ _ [.ow self, .im letter]
  refine q_openP 0 rfl fun y ok => ?_
  show At _ _ _ _ [.ow (pnd self.a y self.m), .im letter]
  refine sp_copAA rfl (ev_var (i := 1) rfl) ok (EvX.some (xp_known rfl (xp_owners rfl (ev_var (i := 1) rfl) hl) bk)) bl (by exact lt_line (by omega)) fun y1 ok1 => ?_
  show At _ _ _ _ [.ow (pnd self.a y1 { self.m with copies := self.m.copies.set letter.toNat (ix self.m.copies letter ++ [some (ix self.m.known (ix self.m.owners letter))]) }), .im letter]
  refine sp_manyAA rfl (ev_var (i := 1) rfl) ok1 (ev_int) bm (by exact lt_line (by dsimp only; omega)) fun y2 ok2 => ?_
  show At _ _ _ _ [.ow (pnd self.a y2 { self.m with copies := self.m.copies.set letter.toNat (ix self.m.copies letter ++ [some (ix self.m.known (ix self.m.owners letter))]), many := self.m.many.set letter.toNat (ix self.m.many letter ++ [0]) }), .im letter]
  have bl2 : 0 ≤ letter ∧ letter < ((self.m.copies.set letter.toNat (ix self.m.copies letter ++ [some (ix self.m.known (ix self.m.owners letter))])).length : Int) := by rw [List.length_set]; exact bl
  exact q_ret (ev_i0 (xp_lenC rfl (ev_var (i := 1) rfl) ok2 bl2) ev_int) (rt_closeP 0 rfl ok2 (hret _ _ _ rfl rfl ⟨by
    show postDouble self.m letter = _
    unfold postDouble
    rw [if_pos hl]
    dsimp only
    rw [ix_setP bl, List.length_append, List.length_singleton]
    have e9 : (((ix self.m.copies letter).length + 1 : Nat) : Int) - 1 = ((ix self.m.copies letter).length : Int) := by omega
    rw [e9], rfl⟩))
end
theorem sc_Post_hop : FnScope ["self", "letter", "copy", "house"] ["self", "letter", "copy"] (defScope s_Post_hop) := ⟨rfl, rfl, rfl, by decide +kernel, rfl, by decide +kernel, by decide +kernel⟩
section
variable {P : Program} {w : World} {K : Fg} {mg : Str → Option Value} {base : Heap}
set_option maxHeartbeats 4000000 in
theorem ok_Post_hop {C : Addr} {Y : XC → Addr} (T : Tx K mg C Y) (c_Post_need_copy : MCalX P w K mg base 2 C "need_copy" ["self", "letter", "copy"] (spT K Y (fun (z : PostM C) (a : Int × Int × Unit) => (postCopy z a.1 a.2.1 : XC ⊕ (Unit × PostM C))) (fun (z : PostM C) (a : Int × Int × Unit) => PostOk z))) : MCalX P w K mg base 3 C "hop" ["self", "letter", "copy"] (spT K Y (fun (z : PostM C) (a : Int × Int × Unit) => (postHop z a.1 a.2.1 : XC ⊕ (Dat × PostM C))) (fun (z : PostM C) (a : Int × Int × Unit) => PostOk z)) := by
  have nd := sc_Post_hop.nd
  refine mdef_spOR (k := 2) T.m_Post_hop sc_Post_hop rfl fun fa cdv A outer s H E hr => ?_
  refine ⟨_, pss_cons (ps_expr (pe_mcalX c_Post_need_copy T.cl (takes_of rfl rfl rfl rfl) hr (by decide) (pv 0) (pa_cons (pv 1) (pa_cons (pv 2) pa_nil))))
    (pss_cons (ps_set (i := 3) nd rfl (.inl rfl) (pe_ix (r := rIxL K) ix_list (pe_ix (r := rIxL K) ix_list (pe_fld (pv 0) rfl) (pv 1) (fun _ _ => rfl)) (pv 2) (fun _ _ => rfl)))
    (pss_cons (ps_if (pt_cmp (pc_isN (pv 3))) (pss_cons (ps_raiseX T.x_noLetter rfl (takes_of rfl rfl rfl rfl) rfl) (pss_nil)) (pss_nil))
    (pss_cons (ps_if (pt_cmpR op_eq (pv 3) (pe_fld (pv 0) rfl) (nomark _))
      (pss_cons (ps_asg (pe_non) (pg_sub (pe_ix (r := rIxL K) ix_list (pe_fld (pv 0) rfl) (pv 1) (fun _ _ => rfl)) (pv 2) set_list))
      (pss_cons (ps_asg (pe_bl) (pg_sub (pe_fld (pv 0) rfl) (pv 1) set_list))
      (pss_cons (ps_ret (pe_tup (pa_cons pe_str pa_nil))) (pss_nil)))) (pss_nil))
    (pss_cons (ps_asg (pe_ix (r := rIxL K) ix_list (pe_fld (pv 0) rfl) (pv 3) (fun _ _ => rfl)) (pg_sub (pe_ix (r := rIxL K) ix_list (pe_fld (pv 0) rfl) (pv 1) (fun _ _ => rfl)) (pv 2) set_list))
    (pss_cons (ps_augS (pe_ix (r := rIxL K) ix_list (pe_fld (pv 0) rfl) (pv 1) (fun _ _ => rfl)) (pv 2) get_list pe_int ip_add set_list)
    (pss_cons (ps_ret (pe_tup (pa_cons pe_str (pa_cons (pe_ix (r := rIxL K) ix_list (pe_fld (pv 0) rfl) (pv 3) (fun _ _ => rfl)) pa_nil)))) (pss_nil))))))), ?_⟩
  rintro self ⟨letter, copy, _⟩ hpre B S0 Q hret herr
  have hok : PostOk self.m := hpre
  show At _ _ _ _ [.ow self, .im letter, .im copy, .no]
  refine q_methT (by decide +kernel) rfl (ea_cons (ev_var (i := 1) rfl) (ea_cons (ev_var (i := 2) rfl) ea_nil)) rfl rfl hok (fun y_ n hE => ?_) (fun e hE => ?_)
  case refine_2 =>
    obtain ⟨he, hl⟩ := copy_no hE
    subst he
    exact herr _ _ _ rfl rfl (by show postHop self.m letter copy = _; unfold postHop; rw [if_neg hl])
  obtain ⟨hn, hl⟩ := copy_ok hE
  subst hn
  have bl : 0 ≤ letter ∧ letter < (self.m.copies.length : Int) := by rw [← hok.oc]; exact hl.1
  have bm : 0 ≤ letter ∧ letter < (self.m.many.length : Int) := by rw [← hok.om]; exact hl.1
  have bh : 0 ≤ letter ∧ letter < (self.m.here.length : Int) := by rw [← hok.oh]; exact hl.1
  have bc : 0 ≤ copy ∧ copy < ((ix self.m.copies letter).length : Int) := hl.2
  have bd : 0 ≤ copy ∧ copy < ((ix self.m.many letter).length : Int) := by rw [← hok.cm_ix letter bl bm]; exact hl.2
  show At _ _ _ _ [.ow self, .im letter, .im copy, .no]
  refine q_openP 0 rfl fun y ok => ?_
  show At _ _ _ _ [.ow (pnd self.a y self.m), .im letter, .im copy, .no]
  refine qg_set 3 (xp_cop rfl (ev_var (i := 1) rfl) (ev_var (i := 2) rfl) ok bl bc) rfl fun house h_house => ?_
  show At _ _ _ _ [.ow (pnd self.a y self.m), .im letter, .im copy, .im house]
  refine q_if (et_B (ev_isN (by exact nn_int) (ev_var (i := 3) rfl))) (fun hb0 => ?_) (fun hb0 => ?_)
  · refine q_raise ?_
    have e0 : house = none := by simpa using hb0
    rw [e0] at h_house
    exact at_closeP 0 rfl ok (herr _ _ _ rfl rfl (by show postHop self.m letter copy = _; exact hop_none hl h_house.symm))
  refine q_next ?_
  obtain ⟨h, rfl⟩ : ∃ h, house = some h := by cases house with | none => cases hb0 | some h => exact ⟨h, rfl⟩
  have bb : 0 ≤ h ∧ h < (self.m.leads.length : Int) := hok.cp_ix bl bc h_house.symm
  refine q_if (et_test (ev_eq (EvX.un (ev_var (i := 3) rfl)) (xp_at rfl))) (fun hb1 => ?_) (fun hb1 => ?_)
  · refine sp_copS rfl (ev_var (i := 1) rfl) ok (ev_var (i := 2) rfl) (ev_none) bl bc fun y1 ok1 => ?_
    show At _ _ _ _ [.ow (pnd self.a y1 { self.m with copies := self.m.copies.set letter.toNat ((ix self.m.copies letter).set copy.toNat none) }), .im letter, .im copy, .im (some h)]
    refine sp_here rfl (ev_var (i := 1) rfl) (ev_bl) bh ?_
    show At _ _ _ _ [.ow (pnd self.a y1 { self.m with copies := self.m.copies.set letter.toNat ((ix self.m.copies letter).set copy.toNat none), here := self.m.here.set letter.toNat true }), .im letter, .im copy, .im (some h)]
    exact q_ret (EvX.dat (ev_tp (els_cons ev_str els_nil) (by simp))) (rt_closeP 0 rfl ⟨ok1.n5, ok1.n6, ok1.n8⟩ (hret _ _ _ rfl rfl ⟨by show postHop self.m letter copy = _; exact hop_here hl h_house.symm (of_decide_eq_true hb1), rfl⟩))
  refine q_next ?_
  refine sp_copS rfl (ev_var (i := 1) rfl) ok (ev_var (i := 2) rfl) (xp_leads rfl (EvX.un (ev_var (i := 3) rfl)) bb) bl bc fun y1 ok1 => ?_
  show At _ _ _ _ [.ow (pnd self.a y1 { self.m with copies := self.m.copies.set letter.toNat ((ix self.m.copies letter).set copy.toNat (ix self.m.leads h)) }), .im letter, .im copy, .im (some h)]
  refine sp_manyG rfl (ev_var (i := 1) rfl) ok1 (ev_var (i := 2) rfl) (ev_int) bm bd fun y2 ok2 => ?_
  show At _ _ _ _ [.ow (pnd self.a y2 { self.m with copies := self.m.copies.set letter.toNat ((ix self.m.copies letter).set copy.toNat (ix self.m.leads h)), many := self.m.many.set letter.toNat ((ix self.m.many letter).set copy.toNat (ix (ix self.m.many letter) copy + 1)) }), .im letter, .im copy, .im (some h)]
  exact q_ret (EvX.dat (ev_pair ev_str (xp_leads rfl (EvX.un (ev_var (i := 3) rfl)) bb))) (rt_closeP 0 rfl ok2 (hret _ _ _ rfl rfl ⟨by show postHop self.m letter copy = _; exact hop_on hl h_house.symm (of_decide_eq_false hb1), rfl⟩))
end
theorem sc_Post_hops : FnScope ["self", "letter", "copy"] ["self", "letter", "copy"] (defScope s_Post_hops) := ⟨rfl, rfl, rfl, by decide +kernel, rfl, by decide +kernel, by decide +kernel⟩
section
variable {P : Program} {w : World} {K : Fg} {mg : Str → Option Value} {base : Heap}
set_option maxHeartbeats 4000000 in
theorem ok_Post_hops {C : Addr} {Y : XC → Addr} (T : Tx K mg C Y) (c_Post_need_copy : MCalX P w K mg base 2 C "need_copy" ["self", "letter", "copy"] (spT K Y (fun (z : PostM C) (a : Int × Int × Unit) => (postCopy z a.1 a.2.1 : XC ⊕ (Unit × PostM C))) (fun (z : PostM C) (a : Int × Int × Unit) => PostOk z))) : MCalX P w K mg base 3 C "hops" ["self", "letter", "copy"] (spT K Y (fun (z : PostM C) (a : Int × Int × Unit) => (postHops z a.1 a.2.1 : XC ⊕ (Int × PostM C))) (fun (z : PostM C) (a : Int × Int × Unit) => PostOk z)) := by
  have nd := sc_Post_hops.nd
  refine mdef_spOR (k := 2) T.m_Post_hops sc_Post_hops rfl fun fa cdv A outer s H E hr => ?_
  refine ⟨_, pss_cons (ps_expr (pe_mcalX c_Post_need_copy T.cl (takes_of rfl rfl rfl rfl) hr (by decide) (pv 0) (pa_cons (pv 1) (pa_cons (pv 2) pa_nil))))
    (pss_cons (ps_ret (pe_ix (r := rIxL K) ix_list (pe_ix (r := rIxL K) ix_list (pe_fld (pv 0) rfl) (pv 1) (fun _ _ => rfl)) (pv 2) (fun _ _ => rfl))) (pss_nil)), ?_⟩
  rintro self ⟨letter, copy, _⟩ hpre B S0 Q hret herr
  have hok : PostOk self.m := hpre
  show At _ _ _ _ [.ow self, .im letter, .im copy]
  refine q_methT (by decide +kernel) rfl (ea_cons (ev_var (i := 1) rfl) (ea_cons (ev_var (i := 2) rfl) ea_nil)) rfl rfl hok (fun y_ n hE => ?_) (fun e hE => ?_)
  case refine_2 =>
    obtain ⟨he, hl⟩ := copy_no hE
    subst he
    exact herr _ _ _ rfl rfl (by show postHops self.m letter copy = _; unfold postHops; rw [if_neg hl])
  obtain ⟨hn, hl⟩ := copy_ok hE
  subst hn
  have bl : 0 ≤ letter ∧ letter < (self.m.copies.length : Int) := by rw [← hok.oc]; exact hl.1
  have bm : 0 ≤ letter ∧ letter < (self.m.many.length : Int) := by rw [← hok.om]; exact hl.1
  have bh : 0 ≤ letter ∧ letter < (self.m.here.length : Int) := by rw [← hok.oh]; exact hl.1
  have bc : 0 ≤ copy ∧ copy < ((ix self.m.copies letter).length : Int) := hl.2
  have bd : 0 ≤ copy ∧ copy < ((ix self.m.many letter).length : Int) := by rw [← hok.cm_ix letter bl bm]; exact hl.2
  show At _ _ _ _ [.ow self, .im letter, .im copy]
  refine q_openP 0 rfl fun y ok => ?_
  show At _ _ _ _ [.ow (pnd self.a y self.m), .im letter, .im copy]
  exact q_ret (xp_many rfl (ev_var (i := 1) rfl) (ev_var (i := 2) rfl) ok bm bd) (rt_closeP 0 rfl ok (hret _ _ _ rfl rfl ⟨by show postHops self.m letter copy = _; unfold postHops; rw [if_pos hl], rfl⟩))
end
theorem sc_Post_learn : FnScope ["self", "i"] ["self", "i"] (defScope s_Post_learn) := ⟨rfl, rfl, rfl, by decide +kernel, rfl, by decide +kernel, by decide +kernel⟩
section
variable {P : Program} {w : World} {K : Fg} {mg : Str → Option Value} {base : Heap}
set_option maxHeartbeats 4000000 in
theorem ok_Post_learn {C : Addr} {Y : XC → Addr} (T : Tx K mg C Y)  : MCalX P w K mg base 1 C "learn" ["self", "i"] (spT K Y (fun (z : PostM C) (a : Int × Unit) => (postLearn z a.1 : XC ⊕ (Unit × PostM C))) (fun (z : PostM C) (a : Int × Unit) => 0 ≤ a.1 ∧ a.1 < (z.known.length : Int))) := by
  have nd := sc_Post_learn.nd
  refine mdef_spOR (k := 0) T.m_Post_learn sc_Post_learn rfl fun fa cdv A outer s H E hr => ?_
  refine ⟨_, pss_cons (ps_asg (pe_fld (pv 0) rfl) (pg_sub (pe_fld (pv 0) rfl) (pv 1) set_list)) (pss_nil), ?_⟩
  rintro self ⟨i, _⟩ hpre B S0 Q hret herr
  show At _ _ _ _ [.ow self, .im i]
  refine q_openP 0 rfl fun y ok => ?_
  show At _ _ _ _ [.ow (pnd self.a y self.m), .im i]
  refine sp_known rfl (ev_var (i := 1) rfl) (xp_at rfl) (by exact hpre) ?_
  show At _ _ _ _ [.ow (pnd self.a y { self.m with known := self.m.known.set i.toNat self.m.at_ }), .im i]
  refine q_next ?_
  refine at_closeP 0 rfl ⟨ok.n5, ok.n6, ok.n8⟩ ?_
  exact fun S_ σ_ H_ F_ k_ => hret _ () (Ob.mk self.a { self.m with known := self.m.known.set i.toNat self.m.at_ }) rfl rfl ⟨by rfl, rfl⟩ S_ σ_ H_ F_ .non k_ rfl
end
theorem sc_Post_take : FnScope ["self", "i"] ["self", "i"] (defScope s_Post_take) := ⟨rfl, rfl, rfl, by decide +kernel, rfl, by decide +kernel, by decide +kernel⟩
section
variable {P : Program} {w : World} {K : Fg} {mg : Str → Option Value} {base : Heap}
set_option maxHeartbeats 4000000 in
theorem ok_Post_take {C : Addr} {Y : XC → Addr} (T : Tx K mg C Y)  : MCalX P w K mg base 1 C "take" ["self", "i"] (spT K Y (fun (z : PostM C) (a : Int × Unit) => (postTake z a.1 : XC ⊕ ((Option Int) × PostM C))) (fun (z : PostM C) (a : Int × Unit) => PostOk z ∧ 0 ≤ a.1 ∧ a.1 < (z.known.length : Int))) := by
  have nd := sc_Post_take.nd
  refine mdef_spOR (k := 0) T.m_Post_take sc_Post_take rfl fun fa cdv A outer s H E hr => ?_
  refine ⟨_, pss_cons (ps_if (PW.pt (pw_or (pt_cmpR (op_eqD hr.units) (pe_ix (r := rIxL K) ix_list (pe_fld (pv 0) rfl) (pv 1) (fun _ _ => rfl)) (pe_lst pa_nil) (nomark _)) (pw_or1 (pt_not (pt_val (pe_ix (r := rIxL K) ix_list (pe_fld (pv 0) rfl) (pe_ix (r := rIxL K) ix_list (pe_ix (r := rIxL K) ix_list (pe_fld (pv 0) rfl) (pv 1) (fun _ _ => rfl)) (pe_int) (fun _ _ => rfl)) (fun _ _ => rfl))))))) (pss_cons (ps_ret pe_non) (pss_nil)) (pss_nil))
    (pss_cons (ps_ret (pe_bm PySem.F.plainAttrs_list PySem.F.slot_list_pop PySem.F.type_list_pop mt_popAt (pe_ix (r := rIxL K) ix_list (pe_fld (pv 0) rfl) (pv 1) (fun _ _ => rfl)) (pa_cons pe_int pa_nil))) (pss_nil)), ?_⟩
  rintro self ⟨i, _⟩ hpre B S0 Q hret herr
  obtain ⟨hok, hi⟩ : PostOk self.m ∧ 0 ≤ i ∧ i < (self.m.known.length : Int) := hpre
  have bd : 0 ≤ i ∧ i < (self.m.due.length : Int) := by rw [← hok.kd]; exact hi
  have hdl := hok.dl bd
  show At _ _ _ _ [.ow self, .im i]
  refine q_openP 0 rfl fun y ok => ?_
  show At _ _ _ _ [.ow (pnd self.a y self.m), .im i]
  refine q_if (et_or (et_test (xp_dueE rfl (ev_var (i := 1) rfl) ok bd)) (fun hc => et_not (et_B (xp_here rfl (xp_due rfl (ev_var (i := 1) rfl) ev_int ok bd (hok.du_0 bd hc).1) (hok.du_0 bd hc).2)))) (fun hb0 => ?_) (fun hb0 => ?_)
  · exact q_ret (ev_none (α := Int)) (rt_closeP 0 rfl ok (hret _ _ _ rfl rfl ⟨by show postTake self.m i = _; unfold postTake; rw [if_pos (tk_yes hb0)], rfl⟩))
  refine q_next ?_
  have hno := tk_no hb0
  exact rp_duePop rfl (ev_var (i := 1) rfl) ok (ev_int) bd ⟨by rcases h : ix self.m.due i with _ | ⟨_, _⟩; exact absurd (.inl h) hno; exact Nat.succ_pos _, by omega⟩ rfl fun y1 ok1 => rt_closeP 0 rfl ok1 (hret _ _ _ rfl rfl ⟨by show postTake self.m i = _; unfold postTake; rw [if_neg hno], rfl⟩)
end
theorem sc__law_spring : FnScope ["script", "k", "number", "stir", "found", "turn"] ["script", "k"] (defScope s__law_spring) := ⟨rfl, rfl, rfl, by decide +kernel, rfl, by decide +kernel, by decide +kernel⟩
section
variable {P : Program} {w : World} {K : Fg} {mg : Str → Option Value} {base : Heap}
set_option maxHeartbeats 4000000 in
theorem ok__law_spring {C : Addr} {Y : XC → Addr} (T : Tx K mg C Y)  : Cal P w K mg base 1 "_law_spring" ["script", "k"] (spSpring K) := by
  have nd := sc__law_spring.nd
  refine def_spring (k := 0) T.d__law_spring sc__law_spring rfl fun fa cdv A outer s H E hr => ?_
  refine ⟨_, pss_cons (ps_set (i := 2) nd rfl (.inl rfl) (pe_op op_add (pe_op op_mul (pe_int) (pv 1)) (pe_int)))
      (Evl.pss_cut (ps_if (pt_cmpR op_lt (pv 1) (pe_callB call_lenG (by rfl) T.n_len (by decide +kernel) (pa_cons (pv 0) pa_nil)) (nomark _)) (pss_cons (ps_set (i := 2) nd rfl (.inl rfl) (pe_ix (r := rIxL K) ix_list (pv 0) (pv 1) (fun _ _ => rfl)))
      (pss_nil)) (pss_nil))
      (pss_cons (ps_if (pt_cmpR op_eq (pe_op op_mod (pv 2) (pe_int)) (pe_int) (nomark _)) (pss_cons (ps_ret (pe_lst (pa_cons (pe_op op_fdiv (pv 2) (pe_int)) pa_nil)))
      (pss_nil)) (pss_nil))
      (pss_cons (ps_set (i := 3) nd rfl (.inl rfl) (pe_op op_mod (pe_op op_add (pe_op op_add (pe_op op_mul (pe_op op_mod (pv 2) (pe_int)) (pe_int)) (pe_op op_mul (pe_int) (pv 1))) (pe_int)) (pe_int)))
      (pss_cons (ps_set (i := 4) nd rfl (.inl rfl) (pe_int))
      (pss_cons (ps_for PassesOwn.never rfl (pi_range1 (by rfl) T.n_range (pa_cons (pe_int) pa_nil)) (pg_name (i := 5) nd rfl (.inl rfl))
      (pss_cons (ps_set (i := 3) nd rfl (.inl rfl) (pe_op op_mod (pe_op op_add (pe_op op_add (pe_op op_add (pe_op op_mul (pv 3) (pv 3)) (pe_op op_mul (pe_int) (pv 3))) (pe_op op_mul (pe_int) (pv 5))) (pe_int)) (pe_int)))
      (pss_cons (ps_set (i := 4) nd rfl (.inl rfl) (pe_op op_add (pe_op op_mul (pv 4) (pe_int)) (pv 3)))
      (pss_nil))))
      (pss_cons (ps_ret (pe_lst (pa_cons (pv 4) pa_nil)))
      (pss_nil))))))), ?_⟩
  intro script k h0 h1 B S0 Q hret
  show At _ _ _ _ [.im script, .im k, .no, .no, .no, .no]
  refine qg_set 2 (ev_i0 (ev_iC (ev_int) (ev_var (i := 1) rfl) (by exact .inl ⟨by decide, by decide⟩)) (ev_int)) rfl fun number h_number => ?_
  refine q_cut1 [.im script, .im k, .im (if decide (k < (script.l.length : Int)) = true then ix script.l k else number), .no, .no, .no] ?_ ?_
  · refine q_ifc (et_test (ev_b0 (ev_var (i := 1) rfl) (ev_lenS (ev_var (i := 0) rfl)))) (fun hb0 => ?_) (fun hb0 => ?_)
    ·
      refine qg_set 2 (ev_ixS (ev_var (i := 0) rfl) (ev_var (i := 1) rfl) (by simp only [decide_eq_true_eq] at hb0; omega)) rfl fun number1 h_number1 => ?_
      refine q_next ?_
      exact at_mid (.k (.k (.k (.d (.d (.d .n)))))) (by subst_vars; simp only [hb0, if_true, if_false, Bool.false_eq_true])
    ·
      refine q_next ?_
      exact at_mid (.k (.k (.k (.d (.d (.d .n)))))) (by subst_vars; simp only [hb0, if_true, if_false, Bool.false_eq_true])
  refine at_gen 2 rfl fun number2 h_number2 => ?_
  refine q_if (et_test (ev_eq (ev_iC (ev_var (i := 2) rfl) (ev_int) (by decide)) (ev_int))) (fun hb1 => ?_) (fun hb1 => ?_)
  ·
    exact q_retL (el_lst (els_cons (ev_iC (ev_var (i := 2) rfl) (ev_int) (by exact ⟨by decide, by decide⟩)) (els_nil)) (by simp)) (fun S_ σ_ H_ F_ p_ vs_ k1 a_ b_ c_ d_ r_ => hret _ _ S_ σ_ H_ F_ p_ vs_ (k1) a_ b_ c_ d_ r_)
  ·
    refine q_next ?_
    refine qg_set 3 (ev_iC (ev_i0 (ev_i0 (ev_iC (ev_iC (ev_var (i := 2) rfl) (ev_int) (by decide)) (ev_int) (by exact .inr ⟨by decide, by decide⟩)) (ev_iC (ev_int) (ev_var (i := 1) rfl) (by exact .inl ⟨by decide, by decide⟩))) (ev_int)) (ev_int) (by decide)) rfl fun stir h_stir => ?_
    refine qg_set 4 (ev_int) rfl fun found h_found => ?_
    refine qg_inv (fun st_ : Int × Int => [.im script, .im k, .im number2, .im st_.1, .im st_.2, .no]) (fun _ s => 0 ≤ s.1 ∧ s.1 < 2147483549) (stir, found) (it_rng1 (ev_int) (by decide)) (.k (.k (.k (.k (.k (.d .n)))))) (by subst_vars; exact ⟨Int.emod_nonneg _ (by decide), Int.emod_lt_of_pos _ (by decide)⟩) (fun pre0 turn post0 s0 ex0 hs0 Sb0 rb0 => ⟨_, _, tg_name rfl, ?_⟩) (fun s0 hs0 => ?_)
    ·
      obtain ⟨stir_b, found_b⟩ := s0
      show At _ _ _ _ [.im script, .im k, .im number2, .im stir_b, .im found_b, .im turn]
      refine qg_set 3 (ev_iC (ev_i0 (ev_i0 (ev_i0 (ev_iC (ev_var (i := 3) rfl) (ev_var (i := 3) rfl) (by exact .inl ⟨by dsimp only at hs0; omega, by dsimp only at hs0; omega⟩)) (ev_iC (ev_int) (ev_var (i := 3) rfl) (by exact .inl ⟨by decide, by decide⟩))) (ev_iC (ev_int) (ev_var (i := 5) rfl) (by exact .inl ⟨by decide, by decide⟩))) (ev_int)) (ev_int) (by decide)) rfl fun stir1 h_stir1 => ?_
      refine qg_set 4 (ev_i0 (ev_iC (ev_var (i := 4) rfl) (ev_int) (by exact .inr ⟨by decide, by decide⟩)) (ev_var (i := 3) rfl)) rfl fun found1 h_found1 => ?_
      exact q_next (at_mid (.k (.k (.k (.k (.k (.d .n)))))) ⟨(stir1, found1), by rfl, by subst_vars; exact ⟨Int.emod_nonneg _ (by decide), Int.emod_lt_of_pos _ (by decide)⟩⟩)
    ·
      obtain ⟨stir_e, found_e⟩ := s0
      show At _ _ _ _ [.im script, .im k, .im number2, .im stir_e, .im found_e, .no]
      exact q_retL (el_lst (els_cons (ev_var (i := 4) rfl) (els_nil)) (by simp)) (fun S_ σ_ H_ F_ p_ vs_ k1 a_ b_ c_ d_ r_ => hret _ _ S_ σ_ H_ F_ p_ vs_ (k1) a_ b_ c_ d_ r_)
end
theorem sc__law_cup : FnScope ["spring", "many", "digit"] ["spring", "many"] (defScope s__law_cup) := ⟨rfl, rfl, rfl, by decide +kernel, rfl, by decide +kernel, by decide +kernel⟩
section
variable {P : Program} {w : World} {K : Fg} {mg : Str → Option Value} {base : Heap}
set_option maxHeartbeats 4000000 in
theorem ok__law_cup {C : Addr} {Y : XC → Addr} (T : Tx K mg C Y)  : Cal P w K mg base 1 "_law_cup" ["spring", "many"] (spM K (fun (z : Spr) (a : Int × Unit) => lawCup z a.1) (fun z a => 0 < a.1 ∧ a.1 < 1073741824)) := by
  have nd := sc__law_cup.nd
  refine def_spM (k := 0) T.d__law_cup sc__law_cup rfl (fun z a _ => by unfold lawCup; rfl) fun fa cdv A outer s H E hr => ?_
  refine ⟨_, pss_cons (ps_set (i := 2) nd rfl (.inl rfl) (pe_op op_mod (pe_ix (r := rIxL K) ix_list (pv 0) (pe_int) (fun _ _ => rfl)) (pv 1)))
      (pss_cons (ps_asg (pe_op op_fdiv (pe_ix (r := rIxL K) ix_list (pv 0) (pe_int) (fun _ _ => rfl)) (pv 1)) (pg_sub (pv 0) pe_int set_list))
      (pss_cons (ps_ret (pv 2))
      (pss_nil))), ?_⟩
  rintro spring ⟨many, _⟩ hpre B S0 Q hret
  show At _ _ _ _ [.ow spring, .im many, .no]
  obtain ⟨h0, h1⟩ := hpre
  refine qg_set 2 (ev_iC (ev_spr0 (i := 0) rfl) (ev_var (i := 1) rfl) (by exact h0)) rfl fun digit h_digit => ?_
  refine q_sprset (i := 0) (ev_iC (ev_spr0 (i := 0) rfl) (ev_var (i := 1) rfl) (by exact ⟨h0, h1⟩)) rfl ?_
  refine at_genO 0 rfl fun spring1 h_spring1 => ?_
  show At _ _ _ _ [.ow spring1, .im many, .im digit]
  exact q_ret (ev_var (i := 2) rfl) (hret _ _ _ rfl (by subst_vars; unfold lawCup; rfl))
end
theorem sc__law_note : FnScope ["state", "i", "letter"] ["state", "i", "letter"] (defScope s__law_note) := ⟨rfl, rfl, rfl, by decide +kernel, rfl, by decide +kernel, by decide +kernel⟩
section
variable {P : Program} {w : World} {K : Fg} {mg : Str → Option Value} {base : Heap}
set_option maxHeartbeats 4000000 in
theorem ok__law_note {C : Addr} {Y : XC → Addr} (T : Tx K mg C Y)  : Cal P w K mg base 1 "_law_note" ["state", "i", "letter"] (spO K (fun (z : St41) (a : Int × Option Int × Unit) (y : Unit) (z_ : St41) => z_ = { z with m := noteM z.m a.1 a.2.1 }) (fun (z : St41) (a : Int × Option Int × Unit) => NoteP z a.1 a.2.1)) := by
  have nd := sc__law_note.nd
  refine def_spOG (k := 0) T.d__law_note sc__law_note rfl fun fa cdv A outer s H E hr => ?_
  refine ⟨_, pss_cons (ps_if (pt_cmp (pc_notN (pv 2))) (pss_cons (ps_expr (pe_bm PySem.F.plainAttrs_list PySem.F.slot_list_append PySem.F.type_list_append mt_append (pe_ix (r := rIxL K) ix_list (pe_dget (hu_of hr) (pv 0) pe_str (fun _ _ => rfl)) (pv 1) (fun _ _ => rfl)) (pa_cons (pv 2) pa_nil)))
      (pss_cons (ps_if (pt_cmp (pc_dnotin (hu_of hr) (pv 2) (pe_dget (hu_of hr) (pv 0) pe_str (fun _ _ => rfl)))) (pss_cons ps_never (pss_nil)) (pss_nil))
      (pss_nil))) (pss_nil))
      (pss_nil), ?_⟩
  rintro st ⟨i, letter, _⟩ hpre B S0 Q hret
  have hp : NoteP st i letter := hpre
  show At _ _ _ _ [.ow st, .im i, .im letter]
  refine q_if (et_B (ev_notN nn_int (ev_var (i := 2) rfl))) (fun hb0 => ?_) (fun hb0 => ?_)
  · obtain ⟨l, rfl⟩ : ∃ l, letter = some l := by
      cases letter with
      | none => cases hb0
      | some l => exact ⟨l, rfl⟩
    refine qs_taken (i := 0) rfl (ev_var (i := 1) rfl) hp.ib hp.tl (EvX.get (α := Int) (ev_var (i := 2) rfl) rfl) hp.sz ?_
    show At _ _ _ _ [.ow { st with m := noteM st.m i (some l) }, .im i, .im (some l)]
    refine q_ifF (et_B (ev_ninH (i := 0) (EvX.get (α := Int) (ev_var (i := 2) rfl) rfl) rfl)) (by show (!(st.m.here.get? l).isSome) = false; rw [hp.he l rfl]; rfl) ?_
    refine q_next ?_
    exact fun S_ σ_ H_ F_ k_ => hret _ () { st with m := noteM st.m i (some l) } rfl rfl rfl S_ σ_ H_ F_ .non k_ rfl
  · have e : letter = none := by
      cases letter with
      | none => rfl
      | some l => cases hb0
    subst e
    refine q_next ?_
    exact fun S_ σ_ H_ F_ k_ => hret _ () st rfl rfl rfl S_ σ_ H_ F_ .non k_ rfl
end
theorem sc__law_hopped : FnScope ["post", "state", "one", "since"] ["post", "state", "one"] (defScope s__law_hopped) := ⟨rfl, rfl, rfl, by decide +kernel, rfl, by decide +kernel, by decide +kernel⟩
section
variable {P : Program} {w : World} {K : Fg} {mg : Str → Option Value} {base : Heap}
set_option maxHeartbeats 4000000 in
theorem ok__law_hopped {C : Addr} {Y : XC → Addr} (T : Tx K mg C Y) (c_Post_hop : MCalX P w K mg base 3 C "hop" ["self", "letter", "copy"] (spT K Y (fun (z : PostM C) (a : Int × Int × Unit) => (postHop z a.1 a.2.1 : XC ⊕ (Dat × PostM C))) (fun (z : PostM C) (a : Int × Int × Unit) => PostOk z))) (c_Post_hops : MCalX P w K mg base 3 C "hops" ["self", "letter", "copy"] (spT K Y (fun (z : PostM C) (a : Int × Int × Unit) => (postHops z a.1 a.2.1 : XC ⊕ (Int × PostM C))) (fun (z : PostM C) (a : Int × Int × Unit) => PostOk z))) : Cal P w K mg base 4 "_law_hopped" ["post", "state", "one"] (spO2 K (fun (z : Ob (PostM C)) (y : St41) (a : (Int × Int) × Unit) (b : Bool) (z_ : Ob (PostM C)) (y_ : St41) => z_.a = z.a ∧ (∃ s, y_ = { y with m := s }) ∧ HopR z.m y.m a.1 b z_.m y_.m) (fun (z : Ob (PostM C)) (y : St41) (a : (Int × Int) × Unit) => HopP41 z.m y.m a.1)) := by
  have nd := sc__law_hopped.nd
  refine def_spR2 (k := 3) T.d__law_hopped sc__law_hopped rfl fun fa cdv A outer s H E hr => ?_
  refine ⟨_, pss_cons (ps_if (pt_cmpR (op_eqD hr.units) (pe_mcalX c_Post_hop T.cl takes_never hr (by decide) (pv 0) (pa_cons (pe_ix (r := rIxT K) ix_tup (pv 2) pe_int (fun _ _ => rfl)) (pa_cons (pe_ix (r := rIxT K) ix_tup (pv 2) pe_int (fun _ _ => rfl)) (pa_nil)))) (pe_tup (pa_cons pe_str pa_nil)) (nomark _)) (pss_cons (ps_set (i := 3) nd rfl (.inl rfl) (pe_npop (hu2_of hr) (pe_dget (hu_of hr) (pv 1) pe_str (fun _ _ => rfl)) (pa_cons (pv 2) pa_nil)))
      (pss_cons (ps_dput (hu_of hr) (pe_dget (hu_of hr) (pv 1) pe_str (fun _ _ => rfl)) (pe_ix (r := rIxT K) ix_tup (pv 2) pe_int (fun _ _ => rfl)) (pe_bl) rfl)
      (pss_nil))) (pss_cons (ps_set (i := 3) nd rfl (.inl rfl) (pe_nget (hu2_of hr) (pe_dget (hu_of hr) (pv 1) pe_str (fun _ _ => rfl)) (pv 2) (fun _ _ => rfl)))
      (pss_nil)))
      (pss_cons (ps_ret (pe_cmpR op_le (pe_mcalX c_Post_hops T.cl takes_never hr (by decide) (pv 0) (pa_cons (pe_ix (r := rIxT K) ix_tup (pv 2) pe_int (fun _ _ => rfl)) (pa_cons (pe_ix (r := rIxT K) ix_tup (pv 2) pe_int (fun _ _ => rfl)) (pa_nil)))) (pe_op op_sub (pe_dget (hu_of hr) (pv 1) pe_str (fun _ _ => rfl)) (pv 3)) (nomark _)))
      (pss_nil)), ?_⟩
  rintro self st ⟨qq, _⟩ hpre B S0 Q hret
  obtain ⟨hsz, n0, m0, t0, hs, hJ, hq⟩ : HopP41 self.m st.m qq := hpre
  obtain ⟨d, p', m', hh, hs', hH⟩ := hJ.hop hs hq
  have hg := hJ.go qq t0 hq
  have hR : ∀ (n : Int) (m : PMd) (t : Int), Sim n self.m m → J41 n m st.m → st.m.going.get? qq = some t → ∃ m1, Sim n p' m1 ∧ Hp41 n m m1 st.m qq t d := fun n m t a1 a2 a3 => by
    obtain ⟨d1, p1, m1, b1, b2, b3⟩ := a2.hop a1 a3
    rw [hh] at b1
    cases b1
    exact ⟨m1, b2, b3⟩
  have hops := hs'.hops (k := qq.1) (j := qq.2) (by rw [hH.lt]; exact hg.1) (by rw [hH.ln]; exact hg.2.1)
  have hle : decide ((ix (ix m'.lets qq.1).cop qq.2).2 ≤ st.m.carried - t0) = true := decide_eq_true hH.hops
  show At _ _ _ _ [.ow self, .ow st, .im qq, .no]
  rcases hH.sh with hd | ⟨y, hd⟩
  · refine q_ifU (etu_there (b := true) (evu_meth (i := 0) (by decide +kernel) rfl (eau_of (ea_cons (ev_fst (ev_var (i := 2) rfl)) (ea_cons (ev_snd (ev_var (i := 2) rfl)) ea_nil))) rfl rfl (by exact hs.ok) (by exact hh)) (.inl ⟨rfl, hd⟩)) (fun _ => ?_) (fun e => by cases e)
    show At _ _ _ _ [.ow (Ob.mk self.a p'), .ow st, .im qq, .no]
    refine qg_set 3 (ev_popG (i := 1) rfl (ev_var (i := 2) rfl) hq) rfl fun since h_since => ?_
    have e : since = t0 := h_since
    subst e
    show At _ _ _ _ [.ow (Ob.mk self.a p'), .ow { st with m := { st.m with going := st.m.going.del qq } }, .im qq, .im since]
    refine qs_here (i := 1) ev_bl rfl (ev_fst (ev_var (i := 2) rfl)) hsz ?_
    refine q_next ?_
    show At _ _ _ _ [.ow (Ob.mk self.a p'), .ow { st with m := { st.m with going := st.m.going.del qq, here := st.m.here.put qq.1 true } }, .im qq, .im since]
    refine q_retV (evu_b0 (evu_meth (i := 0) (x := Ob.mk self.a p') (x1 := Ob.mk self.a p') (by decide +kernel) rfl (eau_of (ea_cons (ev_fst (ev_var (i := 2) rfl)) (ea_cons (ev_snd (ev_var (i := 2) rfl)) ea_nil))) rfl rfl (by exact hs'.ok) (by exact hops)) (ev_i0 (sr_carried (i := 1) (z := { st with m := { st.m with going := st.m.going.del qq, here := st.m.here.put qq.1 true } }) rfl) (ev_var (i := 3) rfl))) (fun _ _ => hret _ _ (Ob.mk self.a p') { st with m := { st.m with going := st.m.going.del qq, here := st.m.here.put qq.1 true } } rfl rfl rfl rfl ⟨rfl, ⟨_, rfl⟩, hle, fun n m t a1 a2 a3 => ?_⟩)
    obtain ⟨m1, b1, b2⟩ := hR n m t a1 a2 a3
    exact ⟨d, m1, b1, b2, .inl ⟨hd, rfl⟩⟩
  · refine q_ifU (etu_there (b := false) (evu_meth (i := 0) (by decide +kernel) rfl (eau_of (ea_cons (ev_fst (ev_var (i := 2) rfl)) (ea_cons (ev_snd (ev_var (i := 2) rfl)) ea_nil))) rfl rfl (by exact hs.ok) (by exact hh)) (.inr ⟨rfl, y, hd⟩)) (fun e => by cases e) (fun _ => ?_)
    show At _ _ _ _ [.ow (Ob.mk self.a p'), .ow st, .im qq, .no]
    refine qg_set 3 (ev_getG (i := 1) rfl (ev_var (i := 2) rfl) (by rw [hq]; rfl)) rfl fun since h_since => ?_
    have e : since = t0 := by rw [h_since, hq]; rfl
    subst e
    refine q_next ?_
    show At _ _ _ _ [.ow (Ob.mk self.a p'), .ow st, .im qq, .im since]
    refine q_retV (evu_b0 (evu_meth (i := 0) (x := Ob.mk self.a p') (x1 := Ob.mk self.a p') (by decide +kernel) rfl (eau_of (ea_cons (ev_fst (ev_var (i := 2) rfl)) (ea_cons (ev_snd (ev_var (i := 2) rfl)) ea_nil))) rfl rfl (by exact hs'.ok) (by exact hops)) (ev_i0 (sr_carried (i := 1) rfl) (ev_var (i := 3) rfl))) (fun _ _ => hret _ _ (Ob.mk self.a p') st rfl rfl rfl rfl ⟨rfl, ⟨_, rfl⟩, hle, fun n m t a1 a2 a3 => ?_⟩)
    obtain ⟨m1, b1, b2⟩ := hR n m t a1 a2 a3
    exact ⟨d, m1, b1, b2, .inr ⟨by rw [hd]; exact on_there, rfl⟩⟩
end
theorem sc__law_step : FnScope ["spring", "post", "state", "way", "i", "to", "letter", "one"] ["spring", "post", "state"] (defScope s__law_step) := ⟨rfl, rfl, rfl, by decide +kernel, rfl, by decide +kernel, by decide +kernel⟩
section
variable {P : Program} {w : World} {K : Fg} {mg : Str → Option Value} {base : Heap}
set_option maxHeartbeats 4000000 in
theorem ok__law_step {C : Addr} {Y : XC → Addr} (T : Tx K mg C Y) (c_Post_carry : MCalX P w K mg base 1 C "carry" ["self", "to"] (spT K Y (fun (z : PostM C) (a : Int × Unit) => (postCarry z a.1 : XC ⊕ (Unit × PostM C))) (fun (z : PostM C) (a : Int × Unit) => PostOk z))) (c_Post_learn : MCalX P w K mg base 1 C "learn" ["self", "i"] (spT K Y (fun (z : PostM C) (a : Int × Unit) => (postLearn z a.1 : XC ⊕ (Unit × PostM C))) (fun (z : PostM C) (a : Int × Unit) => 0 ≤ a.1 ∧ a.1 < (z.known.length : Int)))) (c_Post_send : MCalX P w K mg base 1 C "send" ["self", "i"] (spT K Y (fun (z : PostM C) (a : Int × Unit) => (postSend z a.1 : XC ⊕ (Int × PostM C))) (fun (z : PostM C) (a : Int × Unit) => PostOk z ∧ 0 ≤ a.1 ∧ a.1 < (z.known.length : Int)))) (c_Post_double : MCalX P w K mg base 2 C "double" ["self", "letter"] (spT K Y (fun (z : PostM C) (a : Int × Unit) => (postDouble z a.1 : XC ⊕ (Int × PostM C))) (fun (z : PostM C) (a : Int × Unit) => PostOk z))) (c_Post_take : MCalX P w K mg base 1 C "take" ["self", "i"] (spT K Y (fun (z : PostM C) (a : Int × Unit) => (postTake z a.1 : XC ⊕ ((Option Int) × PostM C))) (fun (z : PostM C) (a : Int × Unit) => PostOk z ∧ 0 ≤ a.1 ∧ a.1 < (z.known.length : Int)))) (c__law_cup : Cal P w K mg base 1 "_law_cup" ["spring", "many"] (spM K (fun (z : Spr) (a : Int × Unit) => lawCup z a.1) (fun z a => 0 < a.1 ∧ a.1 < 1073741824))) (c__law_note : Cal P w K mg base 1 "_law_note" ["state", "i", "letter"] (spO K (fun (z : St41) (a : Int × Option Int × Unit) (y : Unit) (z_ : St41) => z_ = { z with m := noteM z.m a.1 a.2.1 }) (fun (z : St41) (a : Int × Option Int × Unit) => NoteP z a.1 a.2.1))) (c__law_hopped : Cal P w K mg base 4 "_law_hopped" ["post", "state", "one"] (spO2 K (fun (z : Ob (PostM C)) (y : St41) (a : (Int × Int) × Unit) (b : Bool) (z_ : Ob (PostM C)) (y_ : St41) => z_.a = z.a ∧ (∃ s, y_ = { y with m := s }) ∧ HopR z.m y.m a.1 b z_.m y_.m) (fun (z : Ob (PostM C)) (y : St41) (a : (Int × Int) × Unit) => HopP41 z.m y.m a.1))) : Cal P w K mg base 5 "_law_step" ["spring", "post", "state"] (spO3 K (fun (z : Spr) (y : Ob (PostM C)) (x : St41) (a : Unit) (b : Unit) (z_ : Spr) (y_ : Ob (PostM C)) (x_ : St41) => z_.a = z.a ∧ y_.a = y.a ∧ (∃ s, x_ = { x with m := s }) ∧ x_.m.taken.length = x.m.taken.length ∧ ∀ n m T, Stt T n y.m m x.m → T < 900 → ∃ m1, Stt (T + 1) n y_.m m1 x_.m) (fun (z : Spr) (y : Ob (PostM C)) (x : St41) (a : Unit) => x.tl.length = x.m.taken.length ∧ ∃ n m T, Stt T n y.m m x.m ∧ T < 900)) := by
  have nd := sc__law_step.nd
  refine def_spR3 (k := 4) T.d__law_step sc__law_step rfl fun fa cdv A outer s H E hr => ?_
  refine ⟨_, pss_cons (ps_set (i := 3) nd rfl (.inl rfl) (pe_cal c__law_cup hr (by decide) (by rfl) (pa_cons (pv 0) (pa_cons (pe_int) pa_nil))))
      (pss_cons (ps_set (i := 4) nd rfl (.inl rfl) (pe_cal c__law_cup hr (by decide) (by rfl) (pa_cons (pv 0) (pa_cons ((pe_callB call_lenG (by rfl) T.n_len (by decide +kernel) (pa_cons (pe_dget (hu_of hr) (pv 2) pe_str (fun _ _ => rfl)) pa_nil))) pa_nil))))
      (pss_cons (ps_if (pt_cmpR op_lt (pv 3) pe_int (nomark _)) (pss_cons (ps_set (i := 5) nd rfl (.inl rfl) (pe_op op_mod (pe_op op_add (pe_op op_add (pe_dget (hu_of hr) (pv 2) pe_str (fun _ _ => rfl)) pe_int) (pe_cal c__law_cup hr (by decide) (by rfl) (pa_cons (pv 0) (pa_cons (pe_op op_sub (pe_dget (hu_of hr) (pv 2) pe_str (fun _ _ => rfl)) pe_int) pa_nil)))) (pe_dget (hu_of hr) (pv 2) pe_str (fun _ _ => rfl))))
      (pss_cons (ps_expr (pe_mcalX c_Post_carry T.cl takes_never hr (by decide) (pv 1) (pa_cons (pv 5) (pa_nil))))
      (pss_cons (ps_dput (hu_of hr) (pv 2) (pe_str) (pv 5) rfl)
      (pss_cons (ps_dput (hu_of hr) (pv 2) (pe_str) (pe_op op_add (pe_dget (hu_of hr) (pv 2) pe_str (fun _ _ => rfl)) pe_int) rfl)
      (pss_nil))))) (pss_cons (ps_if (pt_cmpR op_eq (pv 3) pe_int (nomark _)) (pss_cons (ps_expr (pe_mcalX c_Post_learn T.cl takes_never hr (by decide) (pv 1) (pa_cons (pv 4) (pa_nil))))
      (pss_cons (ps_asg (pe_dget (hu_of hr) (pv 2) pe_str (fun _ _ => rfl)) (pg_sub (pe_dget (hu_of hr) (pv 2) pe_str (fun _ _ => rfl)) (pv 4) set_list))
      (pss_nil))) (pss_cons (ps_if (PW.pt (pw_or (pt_cmpR op_lt (pv 3) pe_int (nomark _)) (pw_or1 (pt_cmpR (op_eqNil (Nat.lt_of_succ_lt (hu_of hr))) (pe_dget (hu_of hr) (pv 2) pe_str (fun _ _ => rfl)) (pe_lst pa_nil) (nomark _))))) (pss_cons (ps_set (i := 6) nd rfl (.inl rfl) (pe_mcalX c_Post_send T.cl takes_never hr (by decide) (pv 1) (pa_cons (pv 4) (pa_nil))))
      (pss_cons (ps_expr (pe_bm PySem.F.plainAttrs_list PySem.F.slot_list_append PySem.F.type_list_append mt_append (pe_dget (hu_of hr) (pv 2) pe_str (fun _ _ => rfl)) (pa_cons (pv 4) pa_nil)))
      (pss_cons (ps_nput (hu2_of hr) (pe_dget (hu_of hr) (pv 2) pe_str (fun _ _ => rfl)) (pe_tup (pa_cons (pv 6) (pa_cons pe_int pa_nil))) (pe_ix (r := rIxL K) ix_list (pe_dget (hu_of hr) (pv 2) pe_str (fun _ _ => rfl)) (pv 4) (fun _ _ => rfl)) (by rfl))
      (pss_nil)))) (pss_cons (ps_if (pt_cmpR op_eq (pv 3) pe_int (nomark _)) (pss_cons (ps_set (i := 6) nd rfl (.inl rfl) (pe_cal c__law_cup hr (by decide) (by rfl) (pa_cons (pv 0) (pa_cons ((pe_callB call_lenG (by rfl) T.n_len (by decide +kernel) (pa_cons (pe_dget (hu_of hr) (pv 2) pe_str (fun _ _ => rfl)) pa_nil))) pa_nil))))
      (pss_cons (ps_nput (hu2_of hr) (pe_dget (hu_of hr) (pv 2) pe_str (fun _ _ => rfl)) (pe_tup (pa_cons (pv 6) (pa_cons (pe_mcalX c_Post_double T.cl takes_never hr (by decide) (pv 1) (pa_cons (pv 6) (pa_nil))) pa_nil))) (pe_ix (r := rIxL K) ix_list (pe_dget (hu_of hr) (pv 2) pe_str (fun _ _ => rfl)) (pe_ix (r := rIxL K) ix_list (pe_dget (hu_of hr) (pv 2) pe_str (fun _ _ => rfl)) (pv 6) (fun _ _ => rfl)) (fun _ _ => rfl)) (by rfl))
      (pss_nil))) (pss_cons (ps_if (pt_cmpR op_lt (pv 3) pe_int (nomark _)) (pss_cons (ps_expr (pe_cal c__law_note hr (by decide) (by rfl) (pa_cons (pv 2) (pa_cons (pv 4) (pa_cons (pe_mcalX c_Post_take T.cl takes_never hr (by decide) (pv 1) (pa_cons (pv 4) (pa_nil))) pa_nil)))))
      (pss_nil)) (pss_cons (ps_if (pt_cmpR (r := rNeNd K) (op_neNd (Nat.lt_of_succ_lt (hu_of hr))) (pe_dget (hu_of hr) (pv 2) pe_str (fun _ _ => rfl)) pe_dnewK (nomark _)) (pss_cons (ps_set (i := 7) nd rfl (.inl rfl) (pe_ix (r := rIxL K) ix_list (pe_callB (cr_sortN rfl) (by rfl) T.n_sorted (by decide +kernel) (pa_cons (pe_dget (hu_of hr) (pv 2) pe_str (fun _ _ => rfl)) pa_nil)) (pe_cal c__law_cup hr (by decide) (by rfl) (pa_cons (pv 0) (pa_cons (pe_callB call_len41 (by rfl) T.n_len (by decide +kernel) (pa_cons (pe_dget (hu_of hr) (pv 2) pe_str (fun _ _ => rfl)) pa_nil)) pa_nil))) (fun _ _ => rfl)))
      (pss_cons (ps_if (pt_not (pt_val (pe_cal c__law_hopped hr (by decide) (by rfl) (pa_cons (pv 1) (pa_cons (pv 2) (pa_cons (pv 7) pa_nil)))))) (pss_cons ps_never (pss_nil)) (pss_nil))
      (pss_nil))) (pss_nil))
      (pss_nil)))
      (pss_nil)))
      (pss_nil)))
      (pss_nil)))
      (pss_nil)))
      (pss_nil))), ?_⟩
  rintro spring post st ⟨⟩ hpre B S0 Q hret
  obtain ⟨htl, n0, m0, T0, h0, hT⟩ : st.tl.length = st.m.taken.length ∧ ∃ n m T, Stt T n post.m m st.m ∧ T < 900 := hpre
  have hkn : st.m.known.length = m0.known.length := by rw [h0.j.kn]
  have hk2 := h0.k
  have hh := h0.n2
  have hpk : post.m.known.length = m0.known.length := by rw [h0.sim.kn, List.length_map]
  have hse : st.m.sent.length = m0.lets.length := by rw [h0.j.se, List.length_map]
  have hll := h0.sz.l
  have hgl := h0.g
  have htk := h0.j.tl
  show At _ _ _ _ [.ow spring, .ow post, .ow st, .no, .no, .no, .no, .no]
  refine qg_set 3 (ev_callM (i := 0) rfl (ea_cons (ev_int) (ea_nil)) rfl (by exact ⟨by decide, by decide⟩)) rfl fun way h_way => ?_
  refine at_genO 0 rfl fun spr1 h_spr1 => ?_
  have hs1 : spr1.a = spring.a := by rw [h_spr1, cup_a]
  clear h_way h_spr1
  show At _ _ _ _ [.ow spr1, .ow post, .ow st, .im way, .no, .no, .no, .no]
  refine qg_set 4 (ev_callM (i := 0) rfl (ea_cons (ev_lenF (ef_known (i := 2) rfl)) (ea_nil)) rfl (by exact ⟨by dsimp only; omega, by dsimp only; omega⟩)) rfl fun i h_i => ?_
  refine at_genO 0 rfl fun spr2 h_spr2 => ?_
  have hs2 : spr2.a = spring.a := by rw [h_spr2, cup_a, hs1]
  have hi : 0 ≤ i ∧ i < (m0.known.length : Int) := by rw [h_i, ← hkn]; exact cup_bd spr1 (by dsimp only; omega)
  clear h_i h_spr2
  show At _ _ _ _ [.ow spr2, .ow post, .ow st, .im way, .im i, .no, .no, .no]
  refine q_if (et_test (ev_b0 (ev_var (i := 3) rfl) ev_int)) (fun _ => ?_) (fun _ => ?_)
  · have hc := cup_bd spr2 (m := st.m.houses - 1) (by omega)
    refine qg_set 5 (ev_iC (ev_i0 (ev_i0 (sr_at (i := 2) rfl) ev_int) (ev_callM (i := 0) rfl (ea_cons (ev_i0 (sr_houses (i := 2) rfl) ev_int) (ea_nil)) rfl (by exact ⟨by dsimp only; omega, by dsimp only; omega⟩))) (sr_houses (i := 2) rfl) (by show 0 < st.m.houses; omega)) rfl fun to h_to => ?_
    refine at_genO 0 rfl fun spr3 h_spr3 => ?_
    have hs3 : spr3.a = spring.a := by rw [h_spr3, cup_a, hs2]
    have hto : ∀ n m T, Stt T n post.m m st.m → to ≠ lastI m.road ∧ 0 ≤ to ∧ to < n := fun n m T hs => by rw [h_to]; exact hs.to hc
    clear h_to h_spr3
    show At _ _ _ _ [.ow spr3, .ow post, .ow st, .im way, .im i, .im to, .no, .no]
    refine q_dropV (evu_meth (i := 1) (by decide +kernel) rfl ((eau_of (ea_cons (ev_var (i := 5) rfl) ea_nil))) rfl rfl (by exact h0.sim.ok) (by exact (h0.carry hT (hto _ _ _ h0)).1)) fun _ _ => ?_
    show At _ _ _ _ [.ow spr3, .ow (Ob.mk post.a (carryP post.m to)), .ow st, .im way, .im i, .im to, .no, .no]
    refine qs_at (i := 2) (ev_var (i := 5) rfl) rfl ?_
    show At _ _ _ _ [.ow spr3, .ow (Ob.mk post.a (carryP post.m to)), .ow { st with m := { st.m with place := to } }, .im way, .im i, .im to, .no, .no]
    refine qs_carried (i := 2) (ev_i0 (sr_carried (i := 2) rfl) ev_int) rfl ?_
    refine q_next ?_
    exact fun S_ σ_ H_ F_ k_ => hret _ () spr3 (Ob.mk post.a (carryP post.m to)) { st with m := { st.m with place := to, carried := st.m.carried + 1 } } rfl rfl rfl hs3 rfl rfl ⟨hs3, rfl, ⟨_, rfl⟩, rfl, fun n m T a b => (a.carry b (hto n m T a)).2⟩ S_ σ_ H_ F_ .non k_ rfl
  refine q_if (et_test (ev_eq (ev_var (i := 3) rfl) ev_int)) (fun _ => ?_) (fun _ => ?_)
  · refine q_dropV (evu_meth (i := 1) (by decide +kernel) rfl ((eau_of (ea_cons (ev_var (i := 4) rfl) ea_nil))) rfl rfl (by exact ⟨by dsimp only; omega, by dsimp only; omega⟩) (by exact learn_eq)) fun _ _ => ?_
    show At _ _ _ _ [.ow spr2, .ow (Ob.mk post.a (learnP post.m i)), .ow st, .im way, .im i, .no, .no, .no]
    refine qs_known (i := 2) (sr_carried (i := 2) rfl) (ev_var (i := 4) rfl) rfl (by omega) ?_
    refine q_next ?_
    exact fun S_ σ_ H_ F_ k_ => hret _ () spr2 (Ob.mk post.a (learnP post.m i)) { st with m := { st.m with known := st.m.known.set i.toNat st.m.carried } } rfl rfl rfl hs2 rfl rfl ⟨hs2, rfl, ⟨_, rfl⟩, rfl, fun n m T a b => a.learn⟩ S_ σ_ H_ F_ .non k_ rfl
  refine q_if (et_or (et_test (ev_b0 (ev_var (i := 3) rfl) ev_int)) (fun _ => et_test (ev_eqNilF (ef_sent (i := 2) rfl)))) (fun _ => ?_) (fun hb2 => ?_)
  · refine q_setV 6 (evu_meth (i := 1) (by decide +kernel) rfl ((eau_of (ea_cons (ev_var (i := 4) rfl) ea_nil))) rfl rfl (by exact ⟨h0.sim.ok, by dsimp only; omega, by dsimp only; omega⟩) (by exact send_eq)) (fun _ => rfl) fun _ _ => ?_
    show At _ _ _ _ [.ow spr2, .ow (Ob.mk post.a (sendP post.m i)), .ow st, .im way, .im i, .no, .im ((post.m.owners.length : Nat) : Int), .no]
    refine qs_sent (i := 2) rfl (ev_var (i := 4) rfl) (lt_line (by omega)) ?_
    show At _ _ _ _ [.ow spr2, .ow (Ob.mk post.a (sendP post.m i)), .ow { st with m := { st.m with sent := st.m.sent ++ [i] } }, .im way, .im i, .no, .im ((post.m.owners.length : Nat) : Int), .no]
    refine qs_going (i := 2) (ev_ixF (ef_known (i := 2) rfl) (ev_var (i := 4) rfl) rfl (by dsimp only; omega)) rfl (ev_pair (ev_var (i := 6) rfl) ev_int) (lt_line (by dsimp only; omega)) ?_
    refine q_next ?_
    exact fun S_ σ_ H_ F_ k_ => hret _ () spr2 (Ob.mk post.a (sendP post.m i)) { st with m := { st.m with sent := st.m.sent ++ [i], going := st.m.going.put ((post.m.owners.length : Int), 0) (ix st.m.known i) } } rfl rfl rfl hs2 rfl rfl ⟨hs2, rfl, ⟨_, rfl⟩, rfl, fun n m T a b => a.send b (by rw [← a.j.kn, hkn]; exact hi)⟩ S_ σ_ H_ F_ .non k_ rfl
  have hsp : 0 < st.m.sent.length := by
    cases c : st.m.sent with
    | nil => rw [c] at hb2; simp at hb2
    | cons _ _ => simp
  refine q_if (et_test (ev_eq (ev_var (i := 3) rfl) ev_int)) (fun _ => ?_) (fun _ => ?_)
  · refine qg_set 6 (ev_callM (i := 0) rfl (ea_cons (ev_lenF (ef_sent (i := 2) rfl)) (ea_nil)) rfl (by exact ⟨by dsimp only; omega, by dsimp only; omega⟩)) rfl fun letter h_l => ?_
    refine at_genO 0 rfl fun spr3 h_spr3 => ?_
    have hs3 : spr3.a = spring.a := by rw [h_spr3, cup_a, hs2]
    have hlb : 0 ≤ letter ∧ letter < (st.m.sent.length : Int) := by rw [h_l]; exact cup_bd spr2 (by dsimp only; omega)
    clear h_l h_spr3
    show At _ _ _ _ [.ow spr3, .ow post, .ow st, .im way, .im i, .no, .im letter, .no]
    obtain ⟨c0, p0, hd0, _⟩ := h0.double (i := letter) hT (by omega)
    have hlm : 0 ≤ letter ∧ letter < (m0.lets.length : Int) := by omega
    have hwho := (h0.sim.mo.lt _ (ix_inP hlm)).1
    have hwe : ix st.m.sent letter = (ix m0.lets letter).who := by rw [h0.j.se, ix_map (by omega)]
    refine qs_goingV (i := 2) (st := fun _ : Unit => [.ow spr3, .ow (Ob.mk post.a p0), .ow st, .im way, .im i, .no, .im letter, .no]) (y := fun _ : Unit => (letter, c0)) (R := fun _ : Unit => True) (ev_ixF (ef_known (i := 2) rfl) (ev_ixF (ef_sent (i := 2) rfl) (ev_var (i := 6) rfl) rfl hlb) rfl (by rw [hwe]; omega)) rfl (evu_pair (ev_var (i := 6) rfl) (evu_meth (i := 1) (by decide +kernel) rfl ((eau_of (ea_cons (ev_var (i := 6) rfl) ea_nil))) rfl rfl (by exact h0.sim.ok) (by exact hd0))) (fun _ _ => rfl) (lt_line (by omega)) fun _ _ => ?_
    refine q_next ?_
    exact fun S_ σ_ H_ F_ k_ => hret _ () spr3 (Ob.mk post.a p0) { st with m := { st.m with going := st.m.going.put (letter, c0) (ix st.m.known (ix st.m.sent letter)) } } rfl rfl rfl hs3 rfl rfl ⟨hs3, rfl, ⟨_, rfl⟩, rfl, fun n m T a b => by
      obtain ⟨c1, p1, e1, h1⟩ := a.double (i := letter) b (by rw [← List.length_map (f := Ltr.who), ← a.j.se]; exact hlb)
      rw [hd0] at e1
      cases e1
      exact h1⟩ S_ σ_ H_ F_ .non k_ rfl
  refine q_if (et_test (ev_b0 (ev_var (i := 3) rfl) ev_int)) (fun _ => ?_) (fun _ => ?_)
  · obtain ⟨o0, p0, e0, hh0, m1, hst0⟩ := h0.take (i := i) hi
    refine q_dropV (ev_callOGU 2 rfl (eau_cons (ev_toU (ev_var (i := 4) rfl)) (eau_cons (evu_meth (i := 1) (by decide +kernel) rfl ((eau_of (ea_cons (ev_var (i := 4) rfl) ea_nil))) rfl rfl (by exact ⟨h0.sim.ok, by dsimp only; omega, by dsimp only; omega⟩) (by exact e0)) (eau_of ea_nil))) rfl (by exact ⟨by dsimp only; omega, htl, hh0, lt_line (by have h9 := h0.j.tk i hi.1 hi.2; have h8 := h0.due (i := i); dsimp only; rw [h9]; have h7 : ((mineM m0 i).take (ix m0.taken i).toNat).length ≤ m0.lets.length := (by rw [List.length_take]; have : (mineM m0 i).length ≤ m0.lets.length := (by unfold mineM; refine Nat.le_trans (List.length_filter_le ..) ?_; rw [len_rng]; omega); omega); omega)⟩)) fun w hw => ?_
    obtain ⟨u0, x0⟩ := w
    obtain rfl : x0 = { st with m := noteM st.m i o0 } := hw
    refine q_next ?_
    refine fun S_ σ_ H_ F_ k_ => hret _ () spr2 (Ob.mk post.a p0) { st with m := noteM st.m i o0 } rfl rfl rfl hs2 rfl rfl ⟨hs2, rfl, ⟨_, rfl⟩, (by show (noteM st.m i o0).taken.length = _; unfold noteM; cases o0 <;> simp), fun n m T a b => ?_⟩ S_ σ_ H_ F_ .non k_ rfl
    obtain ⟨o1, p1, e1, _, m2, h2⟩ := a.take (i := i) (by rw [← a.j.kn, hkn]; exact hi)
    rw [e0] at e1
    cases e1
    exact ⟨m2, h2.up⟩
  refine q_if (et_test (ev_neG (i := 2) rfl)) (fun hb5 => ?_) (fun _ => ?_)
  · have hgp : 0 < st.m.going.l.length := by
      cases c : st.m.going.l with
      | nil => rw [c] at hb5; cases hb5
      | cons _ _ => simp
    have hsl : (srt2 (st.m.going.l.map (·.1))).length = st.m.going.l.length := by rw [(srt2_perm _).length_eq, List.length_map]
    refine qg_set 7 (ev_ix (EvL.ev (el_sortG (i := 2) rfl)) (ev_callM (i := 0) rfl (ea_cons (ev_lenG (i := 2) rfl) (ea_nil)) rfl (by exact ⟨by dsimp only; omega, by dsimp only; omega⟩)) (by rw [hsl]; exact cup_bd spr2 (by dsimp only; omega))) rfl fun one h_one => ?_
    refine at_genO 0 rfl fun spr3 h_spr3 => ?_
    have hs3 : spr3.a = spring.a := by rw [h_spr3, cup_a, hs2]
    have hone : one ∈ st.m.going.l.map (·.1) := by
      have h9 : one ∈ srt2 (st.m.going.l.map (·.1)) := by rw [h_one]; exact ix_inP (by rw [hsl]; exact cup_bd spr2 (by dsimp only; omega))
      exact (srt2_perm _).mem_iff.mp h9
    clear h_one h_spr3
    show At _ _ _ _ [.ow spr3, .ow post, .ow st, .im way, .im i, .no, .no, .im one]
    refine q_ifVF (etv_not (etv_B (ev_callO2 1 2 (by decide) rfl rfl (ea_cons (ev_var (i := 7) rfl) ea_nil) rfl rfl (by exact h0.hopP hT hone)))) (fun w hw => by rw [hw.2.2.1]; rfl) fun w hw => ?_
    obtain ⟨b0, y0, x0⟩ := w
    obtain ⟨ea, ⟨s0, es⟩, hr⟩ : y0.a = post.a ∧ (∃ s, x0 = { st with m := s }) ∧ HopR post.m st.m one b0 y0.m x0.m := hw
    refine q_next ?_
    refine fun S_ σ_ H_ F_ k_ => hret _ () spr3 y0 x0 rfl rfl rfl hs3 ea (by rw [es]; rfl) ⟨hs3, ea, ⟨s0, es⟩, ?_, fun n m T a b => ?_⟩ S_ σ_ H_ F_ .non k_ rfl
    · obtain ⟨_, m2, d, t, _, _, _, h4⟩ := h0.hop hone hr
      rcases h4 with ⟨_, e⟩ | ⟨_, e⟩ <;> rw [e]
    · obtain ⟨_, m2, d, t, h2, _⟩ := a.hop hone hr
      exact ⟨m2, h2.up⟩
  exact fun S_ σ_ H_ F_ k_ => hret _ () spr2 post st rfl rfl rfl hs2 rfl rfl ⟨hs2, rfl, ⟨_, rfl⟩, rfl, fun n m T a b => ⟨m, a.up⟩⟩ S_ σ_ H_ F_ .non k_ rfl
end
theorem sc__law_start : FnScope ["spring", "houses"] ["spring"] (defScope s__law_start) := ⟨rfl, rfl, rfl, by decide +kernel, rfl, by decide +kernel, by decide +kernel⟩
section
variable {P : Program} {w : World} {K : Fg} {mg : Str → Option Value} {base : Heap}
set_option maxHeartbeats 4000000 in
theorem ok__law_start {C : Addr} {Y : XC → Addr} (T : Tx K mg C Y) (c__law_cup : Cal P w K mg base 1 "_law_cup" ["spring", "many"] (spM K (fun (z : Spr) (a : Int × Unit) => lawCup z a.1) (fun z a => 0 < a.1 ∧ a.1 < 1073741824))) : Cal P w K mg base 2 "_law_start" ["spring"] (spRS K (fun (a : Unit) (y : (T3 Int Int Int)) => StartOk y) (fun a => True)) := by
  have nd := sc__law_start.nd
  refine def_spR (k := 1) T.d__law_start sc__law_start rfl fun fa cdv A outer s H E hr => ?_
  refine ⟨_, pss_cons (ps_set (i := 1) nd rfl (.inl rfl) (pe_op op_add (pe_int) (pe_cal c__law_cup hr (by decide) (by rfl) (pa_cons (pv 0) (pa_cons (pe_ix (r := rIxL K) ix_list (pe_lst (pa_cons (pe_int) (pa_cons (pe_int) (pa_cons (pe_int) pa_nil)))) (pe_cal c__law_cup hr (by decide) (by rfl) (pa_cons (pv 0) (pa_cons (pe_int) pa_nil))) (fun _ _ => rfl)) pa_nil)))))
      (pss_cons (ps_ret (pe_tup (pa_cons (pv 1) (pa_cons (pe_cal c__law_cup hr (by decide) (by rfl) (pa_cons (pv 0) (pa_cons (pv 1) pa_nil))) (pa_cons (pe_op op_add (pe_int) (pe_cal c__law_cup hr (by decide) (by rfl) (pa_cons (pv 0) (pa_cons (pe_int) pa_nil)))) pa_nil)))))
      (pss_nil)), ?_⟩
  rintro spring ⟨_⟩ hpre B S0 Q hret
  show At _ _ _ _ [.ow spring, .no]
  refine qg_set 1 (ev_i0 (ev_int) (ev_callM (i := 0) rfl (ea_cons (ev_ix (EvL.ev (el_lst (els_cons (ev_int) (els_cons (ev_int) (els_cons (ev_int) (els_nil)))) (by simp))) (ev_callM (i := 0) rfl (ea_cons (ev_int) (ea_nil)) rfl (by exact ⟨by decide, by decide⟩)) (by exact ix3 (cup_bd _ (by decide)))) (ea_nil)) rfl (by exact start_s))) rfl fun houses h_houses => ?_
  refine at_genO 0 rfl fun spring1 h_spring1 => ?_
  show At _ _ _ _ [.ow spring1, .im houses]
  have hh : 2 ≤ houses ∧ houses ≤ 6 := start_h h_houses
  have ha1 : spring1.a = spring.a := by rw [h_spring1, cup_a, cup_a]
  clear h_houses h_spring1
  exact q_ret (ev_t3 (ev_var (i := 1) rfl) (ev_callM (i := 0) rfl (ea_cons (ev_var (i := 1) rfl) (ea_nil)) rfl (by exact ⟨by dsimp only; omega, by dsimp only; omega⟩)) (ev_i0 (ev_int) (ev_callM (i := 0) rfl (ea_cons (ev_int) (ea_nil)) rfl (by exact ⟨by decide, by decide⟩)))) (hret _ _ _ rfl (by rw [cup_a, cup_a, ha1]) (by exact start_ok hh))
end
theorem sc_law : FnScope ["script", "k", "spring", "houses", "at", "senders", "post", "state", "turn", "one", "i", "letter", "sender"] ["script"] (defScope s_law) := ⟨rfl, rfl, rfl, by decide +kernel, rfl, by decide +kernel, by decide +kernel⟩
section
variable {P : Program} {w : World} {K : Fg} {mg : Str → Option Value} {base : Heap}
set_option maxHeartbeats 4000000 in
theorem ok_law {fa : Addr} {fd : FuncData} {C : Addr} {Y : XC → Addr} (T : Tx K mg C Y) (F : Fun K "law" "law" s_law fa fd) (c_Post : ICal P w K mg base 1 C "Post" ["self", "houses", "at", "senders"] (spMk K Y C (fun a : Int × Int × Int × Unit => (postNew a.1 a.2.1 a.2.2.1 : PostM C)) (fun a => 0 ≤ a.1 ∧ a.1 ≤ 1000 ∧ 0 ≤ a.2.2.1 ∧ a.2.2.1 ≤ 1000))) (c_Post_take : MCalX P w K mg base 1 C "take" ["self", "i"] (spT K Y (fun (z : PostM C) (a : Int × Unit) => (postTake z a.1 : XC ⊕ ((Option Int) × PostM C))) (fun (z : PostM C) (a : Int × Unit) => PostOk z ∧ 0 ≤ a.1 ∧ a.1 < (z.known.length : Int)))) (c__law_spring : Cal P w K mg base 1 "_law_spring" ["script", "k"] (spSpring K)) (c__law_start : Cal P w K mg base 2 "_law_start" ["spring"] (spRS K (fun (a : Unit) (y : (T3 Int Int Int)) => StartOk y) (fun a => True))) (c__law_step : Cal P w K mg base 5 "_law_step" ["spring", "post", "state"] (spO3 K (fun (z : Spr) (y : Ob (PostM C)) (x : St41) (a : Unit) (b : Unit) (z_ : Spr) (y_ : Ob (PostM C)) (x_ : St41) => z_.a = z.a ∧ y_.a = y.a ∧ (∃ s, x_ = { x with m := s }) ∧ x_.m.taken.length = x.m.taken.length ∧ ∀ n m T, Stt T n y.m m x.m → T < 900 → ∃ m1, Stt (T + 1) n y_.m m1 x_.m) (fun (z : Spr) (y : Ob (PostM C)) (x : St41) (a : Unit) => x.tl.length = x.m.taken.length ∧ ∃ n m T, Stt T n y.m m x.m ∧ T < 900))) (c__law_hopped : Cal P w K mg base 4 "_law_hopped" ["post", "state", "one"] (spO2 K (fun (z : Ob (PostM C)) (y : St41) (a : (Int × Int) × Unit) (b : Bool) (z_ : Ob (PostM C)) (y_ : St41) => z_.a = z.a ∧ (∃ s, y_ = { y with m := s }) ∧ HopR z.m y.m a.1 b z_.m y_.m) (fun (z : Ob (PostM C)) (y : St41) (a : (Int × Int) × Unit) => HopP41 z.m y.m a.1))) (c__law_note : Cal P w K mg base 1 "_law_note" ["state", "i", "letter"] (spO K (fun (z : St41) (a : Int × Option Int × Unit) (y : Unit) (z_ : St41) => z_ = { z with m := noteM z.m a.1 a.2.1 }) (fun (z : St41) (a : Int × Option Int × Unit) => NoteP z a.1 a.2.1))) : FnOk P w K mg base CX0 6 fa fd ["script"] (spLaw K) := by
  have nd := sc_law.nd
  refine fn_law (k := 5) F sc_law fun cdv A outer s H E hr => ?_
  refine ⟨_, pss_cons (ps_for PassesOwn.never rfl (pi_range1 (by rfl) T.n_range (pa_cons (pe_callB (call_maxG rfl) (by rfl) T.n_max (by decide +kernel) (pa_cons (pe_int) (pa_cons (pe_callB (call_minG rfl) (by rfl) T.n_min (by decide +kernel) (pa_cons (pe_int) (pa_cons (pe_callB call_lenG (by rfl) T.n_len (by decide +kernel) (pa_cons (pv 0) pa_nil)) pa_nil))) pa_nil))) pa_nil)) (pg_name (i := 1) nd rfl (.inl rfl)) (pss_cons (ps_set (i := 2) nd rfl (.inl rfl) (pe_cal c__law_spring hr (by decide) (by rfl) (pa_cons (pv 0) (pa_cons (pv 1) (pa_nil)))))
      (pss_cons (ps_asg (pe_cal c__law_start hr (by decide) (by rfl) (pa_cons (pv 2) (pa_nil))) (pg_tup rfl (pgs_cons (pg_name (i := 3) nd rfl (.inl rfl)) (pgs_cons (pg_name (i := 4) nd rfl (.inl rfl)) (pgs_cons (pg_name (i := 5) nd rfl (.inl rfl)) (pgs_nil))))))
      (pss_cons (ps_set (i := 6) nd rfl (.inl rfl) (pe_ical c_Post hr (by decide) (by rfl) (pa_cons (pv 3) (pa_cons (pv 4) (pa_cons (pv 5) pa_nil)))))
      (pss_cons (ps_set (i := 7) nd rfl (.inl rfl) (pe_disp (pps_cons pe_str (pv 3) (pps_cons pe_str (pv 4) (pps_cons pe_str (pe_op op_rep (pe_lst (pa_cons pe_int pa_nil)) (pv 5)) (pps_cons pe_str (pe_int) (pps_cons pe_str (pe_lst pa_nil) (pps_cons pe_str (pe_nnew) (pps_cons pe_str (pe_dnewK) (pps_cons pe_str (pe_lc (own := [("i", 10)]) (g := gName 10) (by rfl) nd (pi_range1 (by rfl) T.n_range (pa_cons (pv 5) pa_nil)) (blkOk_by (N := ["script", "k", "spring", "houses", "at", "senders", "post", "state", "turn", "one", "i", "letter", "sender"]) (sc := defScope s_law) (by decide +kernel)) (fun _ _ _ _ _ => pg_name (i := 10) nd rfl (.inl rfl) (.inr rfl)) (fun _ _ _ _ _ => pts_nil) (fun _ _ _ _ _ => pe_lst pa_nil)) (pps_cons pe_str (pe_bl) (pps_nil)))))))))) rfl rfl (by simp) (by decide)))
      (pss_cons (ps_for PassesOwn.never rfl (pi_range1 (by rfl) T.n_range (pa_cons (pe_int) pa_nil)) (pg_name (i := 8) nd rfl (.inl rfl)) (pss_cons (ps_expr (pe_cal c__law_step hr (by decide) (by rfl) (pa_cons (pv 2) (pa_cons (pv 6) (pa_cons (pv 7) (pa_nil))))))
      (pss_nil)))
      (pss_cons (ps_for PassesOwn.never rfl (pi_range1 (by rfl) T.n_range (pa_cons (pe_op op_add (pe_dget (hu_of hr) (pv 7) pe_str (fun _ _ => rfl)) pe_int) pa_nil)) (pg_name (i := 8) nd rfl (.inl rfl)) (pss_cons (ps_for PassesOwn.never rfl (pi_list (pe_callB (cr_sortN rfl) (by rfl) T.n_sorted (by decide +kernel) (pa_cons (pe_dget (hu_of hr) (pv 7) pe_str (fun _ _ => rfl)) pa_nil))) (pg_name (i := 9) nd rfl (.inl rfl)) (pss_cons (ps_if (pt_not (pt_val (pe_cal c__law_hopped hr (by decide) (by rfl) (pa_cons (pv 6) (pa_cons (pv 7) (pa_cons (pv 9) (pa_nil))))))) (pss_cons ps_never (pss_nil)) (pss_nil))
      (pss_nil)))
      (pss_nil)))
      (pss_cons (ps_if (PW.pt (pw_or (pt_val (pe_dget (hu_of hr) (pv 7) pe_str (fun _ _ => rfl))) (pw_or1 (pt_cmpR (r := rNeNd K) (op_neNd (Nat.lt_of_succ_lt (hu_of hr))) (pe_dget (hu_of hr) (pv 7) pe_str (fun _ _ => rfl)) pe_dnewK (nomark _))))) (pss_cons ps_never (pss_nil)) (pss_nil))
      (pss_cons (ps_for PassesOwn.never rfl (pi_range1 (by rfl) T.n_range (pa_cons (pv 5) pa_nil)) (pg_name (i := 10) nd rfl (.inr rfl)) (pss_cons (ps_for PassesOwn.never rfl (pi_range1 (by rfl) T.n_range (pa_cons (pe_int) pa_nil)) (pg_name (i := 8) nd rfl (.inl rfl)) (pss_cons (ps_expr (pe_cal c__law_note hr (by decide) (by rfl) (pa_cons (pv 7) (pa_cons (pv 10) (pa_cons (pe_mcalX c_Post_take T.cl takes_never hr (by decide) (pv 6) (pa_cons (pv 10) (pa_nil))) (pa_nil))))))
      (pss_nil)))
      (pss_cons (ps_if (pt_cmpR (op_neD hr.units) (pe_ix (r := rIxL K) ix_list (pe_dget (hu_of hr) (pv 7) pe_str (fun _ _ => rfl)) (pv 10) (fun _ _ => rfl)) (pe_lc (own := [("letter", 11), ("sender", 12)]) (g := gTup K 2 (gCons (gName 11) (gCons (gName 12) (gNil)))) (by rfl) nd (pi_enum (by rfl) T.n_enumerate (pa_cons (pe_dget (hu_of hr) (pv 7) pe_str (fun _ _ => rfl)) pa_nil)) (blkOk_by (N := ["script", "k", "spring", "houses", "at", "senders", "post", "state", "turn", "one", "i", "letter", "sender"]) (sc := defScope s_law) (by decide +kernel)) (fun _ _ _ _ _ => pg_tup rfl (pgs_cons (pg_name (i := 11) nd rfl (.inl rfl) (.inr rfl)) (pgs_cons (pg_name (i := 12) nd rfl (.inl rfl) (.inr rfl)) pgs_nil))) (fun _ _ _ _ _ => pts_one (pt_cmpR op_eq (pv 12) (pv 10) (nomark _))) (fun _ _ _ _ _ => pv 11)) (nomark _)) (pss_cons ps_never (pss_nil)) (pss_nil))
      (pss_nil))))
      (pss_cons (ps_if (pt_val (pe_dget (hu_of hr) (pv 7) pe_str (fun _ _ => rfl))) (pss_cons ps_never (pss_nil)) (pss_nil))
      (pss_nil)))))))))))
      (pss_cons (ps_ret (pe_bl))
      (pss_nil)), ?_⟩
  intro script hpre B S0 Q hret
  show At _ _ _ _ [.im script, .no, .no, .no, .no, .no, .no, .no, .no, .no, .no, .no, .no]
  refine qg_inv (fun st_ : Unit => [.im script, .no, .no, .no, .no, .no, .no, .no, .no, .no, .no, .no, .no]) (fun _ (_ : Unit) => True) () (it_rng1 (ev_max (ev_int) (ev_min (ev_int) (ev_lenS (ev_var (i := 0) rfl)))) (by first | omega | (dsimp only; omega))) (.k (.d (.d (.d (.d (.d (.d (.d (.d (.d (.d (.d (.d .n))))))))))))) (by trivial) (fun pre0 k post0 s0 ex0 hs0 Sb0 rb0 => ⟨_, _, tg_name rfl, ?_⟩) (fun s0 hs0 => ?_)
  · show At _ _ _ _ [.im script, .im k, .no, .no, .no, .no, .no, .no, .no, .no, .no, .no, .no]
    obtain ⟨_, _, hk0, hk1⟩ := rng_pre ex0
    refine q_spring 2 (ea_cons (ev_var (i := 0) rfl) (ea_cons (ev_var (i := 1) rfl) (ea_nil))) (by omega) rfl fun spring0 => ?_
    show At _ _ _ _ [.im script, .im k, .ow spring0, .no, .no, .no, .no, .no, .no, .no, .no, .no, .no]
    refine q_rel 2 rfl (ea_nil) rfl (by trivial) fun start spring hR_start a_spring => ⟨_, _, tg_t3 (tg_name rfl) (tg_name rfl) (tg_name rfl), ?_⟩
    obtain ⟨houses, at0, senders⟩ := start
    obtain ⟨hsa, hsb, hsc⟩ := hR_start
    dsimp only at hsa hsb hsc
    show At _ _ _ _ [.im script, .im k, .ow spring, .im houses, .im at0, .im senders, .no, .no, .no, .no, .no, .no, .no]
    refine q_makeT 6 (ea_cons (ev_var (i := 3) rfl) (ea_cons (ev_var (i := 4) rfl) (ea_cons (ev_var (i := 5) rfl) ea_nil))) T.cl (by exact ⟨by dsimp only; omega, by dsimp only; omega, by dsimp only; omega, by dsimp only; omega⟩) rfl fun a => ?_
    show At _ _ _ _ [.im script, .im k, .ow spring, .im houses, .im at0, .im senders, .ow (Ob.mk a (postNew houses at0 senders : PostM C)), .no, .no, .no, .no, .no, .no]
    have hlce := en_lcE (K := K) (G := [.im script, .im k, .ow spring, .im houses, .im at0, .im senders, .ow (Ob.mk a (postNew houses at0 senders : PostM C)), .no, .no, .no, .no, .no, .no]) (g := gName 10) (vs := [10]) (it_rng1 (ev_var (i := 5) rfl) (by omega)) (by rw [rng_len0]; omega) (fun x hm_x => ⟨_, _, tg_name rfl, (by decide)⟩)
    rw [rng_len0] at hlce
    refine q_newSt 7 (h := houses) (a := at0) (s := senders) (ev_var (i := 3) rfl) (ev_var (i := 4) rfl) (el_rep (EvL.ev (el_lst (els_cons (ev_int) els_nil) (by simp))) (ev_var (i := 5) rfl) (by omega) (by refine Nat.le_trans ?_ (show 4 ≤ sizeLine by decide); show 1 * senders.toNat ≤ 4; omega)) hlce rfl fun st0 hm0 htl0 => ?_
    show At _ _ _ _ [.im script, .im k, .ow spring, .im houses, .im at0, .im senders, .ow (Ob.mk a (postNew houses at0 senders : PostM C)), .ow st0, .no, .no, .no, .no, .no]
    have hst0 : Stt 0 houses (postNew houses at0 senders : PostM C) (modelM houses at0 senders) st0.m := by rw [hm0]; exact Stt.start (by omega) hsb (by omega)
    have htk0 : st0.m.taken.length = senders.toNat := by rw [hm0]; show (List.replicate senders.toNat ([] : List Int)).length = _; rw [List.length_replicate]
    refine qg_inv (fun st_ : Spr × Ob (PostM C) × St41 => [.im script, .im k, .ow st_.1, .im houses, .im at0, .im senders, .ow st_.2.1, .ow st_.2.2, .no, .no, .no, .no, .no]) (fun pre (st : Spr × Ob (PostM C) × St41) => (∃ m, Stt pre.length houses st.2.1.m m st.2.2.m) ∧ st.2.2.tl.length = st.2.2.m.taken.length ∧ st.2.2.m.taken.length = senders.toNat) (spring, Ob.mk a (postNew houses at0 senders : PostM C), st0) (it_rng1 ev_int (by decide)) (.k (.k (.k (.k (.k (.k (.k (.k (.d (.d (.d (.d (.d .n))))))))))))) ⟨⟨_, hst0⟩, htl0, htk0⟩ (fun pre1 turn post1 s1 ex1 hs1 Sb1 rb1 => ⟨_, _, tg_name rfl, ?_⟩) (fun s1 hs1 => ?_)
    · obtain ⟨sp1, z1, x1⟩ := s1
      obtain ⟨⟨m1, hS1⟩, htl1, htk1⟩ : (∃ m, Stt pre1.length houses z1.m m x1.m) ∧ x1.tl.length = x1.m.taken.length ∧ x1.m.taken.length = senders.toNat := hs1
      obtain ⟨_, hk2, hk3, hk4⟩ := rng_pre ex1
      have hle : pre1.length < 60 := by omega
      show At _ _ _ _ [.im script, .im k, .ow sp1, .im houses, .im at0, .im senders, .ow z1, .ow x1, .im turn, .no, .no, .no, .no]
      refine q_dropV (ev_callO3 2 6 7 (by decide) (by decide) (by decide) rfl rfl rfl ea_nil rfl rfl rfl (by exact ⟨htl1, houses, m1, _, hS1, by omega⟩)) fun w hw => ?_
      obtain ⟨u0, sp2, z2, x2⟩ := w
      obtain ⟨_, _, ⟨s2, ex2⟩, et2, hf2⟩ := hw
      dsimp only at ex2 et2 hf2
      obtain ⟨m2, hS2⟩ := hf2 houses m1 _ hS1 (by omega)
      show At _ _ _ _ [.im script, .im k, .ow sp2, .im houses, .im at0, .im senders, .ow z2, .ow x2, .im turn, .no, .no, .no, .no]
      exact q_next (at_mid (.k (.k (.k (.k (.k (.k (.k (.k (.d (.d (.d (.d (.d .n))))))))))))) ⟨(sp2, z2, x2), rfl, ⟨m2, by rw [List.length_append, List.length_singleton]; exact hS2⟩, by dsimp only; rw [et2, ← htl1, ex2], by dsimp only; rw [et2, htk1]⟩)
    obtain ⟨sp1, z1, x1⟩ := s1
    obtain ⟨⟨m1, hS1⟩, htl1, htk1⟩ : (∃ m, Stt (rng 0 60).length houses z1.m m x1.m) ∧ x1.tl.length = x1.m.taken.length ∧ x1.m.taken.length = senders.toNat := hs1
    rw [show (rng 0 60).length = 60 from rfl] at hS1
    have hc0 := hS1.j.ca
    have hrl := hS1.sim.mo.rl
    have hrs := hS1.sz.r
    show At _ _ _ _ [.im script, .im k, .ow sp1, .im houses, .im at0, .im senders, .ow z1, .ow x1, .no, .no, .no, .no, .no]
    refine qg_inv (fun st_ : Ob (PostM C) × St41 => [.im script, .im k, .ow sp1, .im houses, .im at0, .im senders, .ow st_.1, .ow st_.2, .no, .no, .no, .no, .no]) (fun pre (st : Ob (PostM C) × St41) => (∃ m, Stt 60 houses st.1.m m st.2.m ∧ ∀ q t, st.2.m.going.get? q = some t → (pre.length : Int) ≤ (cp41 m q).1) ∧ (st.2.m.carried = x1.m.carried) ∧ st.2.tl.length = st.2.m.taken.length ∧ st.2.m.taken.length = senders.toNat) (z1, x1) (it_rng1 (ev_i0 (sr_carried (i := 7) rfl) ev_int) (by omega)) (.k (.k (.k (.k (.k (.k (.k (.k (.d (.d (.d (.d (.d .n))))))))))))) ⟨⟨m1, hS1, fun q t e => by have h9 := (hS1.j.go q t e).2.2.1; show ((0 : Nat) : Int) ≤ _; omega⟩, rfl, htl1, htk1⟩ (fun pre2 turn post2 s2 ex2 hs2 Sb2 rb2 => ⟨_, _, tg_name rfl, ?_⟩) (fun s2 hs2 => ?_)
    · obtain ⟨z2, x2⟩ := s2
      obtain ⟨⟨m2, hS2, hp2⟩, hc2, htl2, htk2⟩ : (∃ m, Stt 60 houses z2.m m x2.m ∧ ∀ q t, x2.m.going.get? q = some t → (pre2.length : Int) ≤ (cp41 m q).1) ∧ (x2.m.carried = x1.m.carried) ∧ x2.tl.length = x2.m.taken.length ∧ x2.m.taken.length = senders.toNat := hs2
      show At _ _ _ _ [.im script, .im k, .ow sp1, .im houses, .im at0, .im senders, .ow z2, .ow x2, .im turn, .no, .no, .no, .no]
      refine qg_inv (fun st_ : Ob (PostM C) × St41 => [.im script, .im k, .ow sp1, .im houses, .im at0, .im senders, .ow st_.1, .ow st_.2, .im turn, .no, .no, .no, .no]) (fun pre (st : Ob (PostM C) × St41) => (∃ m post, Stt 60 houses st.1.m m st.2.m ∧ pre ++ post = srt2 (x2.m.going.l.map (·.1)) ∧ Rd41 (pre2.length : Int) m st.2.m pre post) ∧ (st.2.m.carried = x1.m.carried) ∧ st.2.tl.length = st.2.m.taken.length ∧ st.2.m.taken.length = senders.toNat) (z2, x2) (it_list (EvL.ev (el_sortG (i := 7) rfl))) (.k (.k (.k (.k (.k (.k (.k (.k (.k (.d (.d (.d (.d .n))))))))))))) ⟨⟨m2, _, hS2, List.nil_append _, Rd41.start hp2 hS2.j.nd⟩, hc2, htl2, htk2⟩ (fun pre3 one post3 s3 ex3 hs3 Sb3 rb3 => ⟨_, _, tg_name rfl, ?_⟩) (fun s3 hs3 => ?_)
      · obtain ⟨z3, x3⟩ := s3
        obtain ⟨⟨m3, post, hS3, ep, hR3⟩, hc3, htl3, htk3⟩ : (∃ m post, Stt 60 houses z3.m m x3.m ∧ pre3 ++ post = srt2 (x2.m.going.l.map (·.1)) ∧ Rd41 (pre2.length : Int) m x3.m pre3 post) ∧ (x3.m.carried = x1.m.carried) ∧ x3.tl.length = x3.m.taken.length ∧ x3.m.taken.length = senders.toNat := hs3
        obtain rfl : post = one :: post3 := List.append_cancel_left (ep.trans ex3.symm)
        have hone := hR3.b one List.mem_cons_self
        show At _ _ _ _ [.im script, .im k, .ow sp1, .im houses, .im at0, .im senders, .ow z3, .ow x3, .im turn, .im one, .no, .no, .no]
        refine q_ifVF (etv_not (etv_B (ev_callO2 6 7 (by decide) rfl rfl (ea_cons (ev_var (i := 9) rfl) ea_nil) rfl rfl (by exact hS3.hopP (by decide) hone)))) (fun w hw => by rw [hw.2.2.1]; rfl) fun w hw => ?_
        obtain ⟨b0, z4, x4⟩ := w
        obtain ⟨_, ⟨s4, es⟩, hr⟩ : z4.a = z3.a ∧ (∃ s, x4 = { x3 with m := s }) ∧ HopR z3.m x3.m one b0 z4.m x4.m := hw
        obtain ⟨_, m4, d, t, hS4, hg, hH, hcs⟩ := hS3.hop hone hr
        have hR4 := hR3.next hS3.j hH hg hcs
        have e4 : x4.m.carried = x3.m.carried ∧ x4.m.taken = x3.m.taken := by rcases hcs with ⟨_, e⟩ | ⟨_, e⟩ <;> rw [e] <;> exact ⟨rfl, rfl⟩
        have e5 : x4.tl = x3.tl := by rw [es]
        show At _ _ _ _ [.im script, .im k, .ow sp1, .im houses, .im at0, .im senders, .ow z4, .ow x4, .im turn, .im one, .no, .no, .no]
        exact q_next (at_mid (.k (.k (.k (.k (.k (.k (.k (.k (.k (.d (.d (.d (.d .n))))))))))))) ⟨(z4, x4), rfl, ⟨m4, post3, hS4, by rw [List.append_assoc]; exact ep, hR4⟩, by dsimp only; rw [e4.1, hc3], by dsimp only; rw [e4.2, e5]; exact htl3, by dsimp only; rw [e4.2]; exact htk3⟩)
      obtain ⟨z3, x3⟩ := s3
      obtain ⟨⟨m3, post, hS3, ep, hR3⟩, hc3, htl3, htk3⟩ : (∃ m post, Stt 60 houses z3.m m x3.m ∧ srt2 (x2.m.going.l.map (·.1)) ++ post = srt2 (x2.m.going.l.map (·.1)) ∧ Rd41 (pre2.length : Int) m x3.m (srt2 (x2.m.going.l.map (·.1))) post) ∧ (x3.m.carried = x1.m.carried) ∧ x3.tl.length = x3.m.taken.length ∧ x3.m.taken.length = senders.toNat := hs3
      obtain rfl : post = [] := List.append_cancel_left (ep.trans (List.append_nil _).symm)
      have hd3 := hR3.done
      show At _ _ _ _ [.im script, .im k, .ow sp1, .im houses, .im at0, .im senders, .ow z3, .ow x3, .im turn, .no, .no, .no, .no]
      exact q_next (at_mid (.k (.k (.k (.k (.k (.k (.k (.k (.d (.d (.d (.d (.d .n))))))))))))) ⟨(z3, x3), rfl, ⟨m3, hS3, fun q t e => by have h9 := hd3 q t e; rw [List.length_append, List.length_singleton]; dsimp only at e ⊢; omega⟩, hc3, htl3, htk3⟩)
    obtain ⟨z2, x2⟩ := s2
    obtain ⟨⟨m2, hS2, hp2⟩, hc2, htl2, htk2⟩ : (∃ m, Stt 60 houses z2.m m x2.m ∧ ∀ q t, x2.m.going.get? q = some t → ((rng 0 (x1.m.carried + 1)).length : Int) ≤ (cp41 m q).1) ∧ (x2.m.carried = x1.m.carried) ∧ x2.tl.length = x2.m.taken.length ∧ x2.m.taken.length = senders.toNat := hs2
    have hgo : x2.m.going.l = [] := hS2.all (fun q t e => by have h9 := hp2 q t e; rw [rng_len0] at h9; rw [hc2]; omega)
    show At _ _ _ _ [.im script, .im k, .ow sp1, .im houses, .im at0, .im senders, .ow z2, .ow x2, .no, .no, .no, .no, .no]
    refine q_ifF (et_or (et_B (sr_wrong (i := 7) rfl)) (fun _ => et_test (ev_neG (i := 7) rfl))) (by rw [hS2.j.wr, hgo]; rfl) ?_
    have hkn2 : m2.known.length = senders.toNat := by rw [← hS2.j.tl, htk2]
    refine qg_inv (fun st_ : Ob (PostM C) × St41 => [.im script, .im k, .ow sp1, .im houses, .im at0, .im senders, .ow st_.1, .ow st_.2, .no, .no, .no, .no, .no]) (fun _ (st : Ob (PostM C) × St41) => (∃ m, Stt 60 houses st.1.m m st.2.m ∧ m.known.length = senders.toNat) ∧ st.2.m.going.l = [] ∧ st.2.tl.length = st.2.m.taken.length ∧ st.2.m.taken.length = senders.toNat) (z2, x2) (it_rng1 (ev_var (i := 5) rfl) (by omega)) (.k (.k (.k (.k (.k (.k (.k (.k (.d (.d (.d (.d (.d .n))))))))))))) ⟨⟨m2, hS2, hkn2⟩, hgo, htl2, htk2⟩ (fun pre3 i post3 s3 ex3 hs3 Sb3 rb3 => ⟨_, _, tg_name rfl, ?_⟩) (fun s3 hs3 => ?_)
    · obtain ⟨z3, x3⟩ := s3
      obtain ⟨⟨m3, hS3, hkn3⟩, hg3, htl3, htk3⟩ : (∃ m, Stt 60 houses z3.m m x3.m ∧ m.known.length = senders.toNat) ∧ x3.m.going.l = [] ∧ x3.tl.length = x3.m.taken.length ∧ x3.m.taken.length = senders.toNat := hs3
      obtain ⟨_, _, hi0, hi1⟩ := rng_pre ex3
      show At _ _ _ _ [.im script, .im k, .ow sp1, .im houses, .im at0, .im senders, .ow z3, .ow x3, .no, .no, .im i, .no, .no]
      refine qg_inv (fun st_ : Ob (PostM C) × St41 => [.im script, .im k, .ow sp1, .im houses, .im at0, .im senders, .ow st_.1, .ow st_.2, .no, .no, .im i, .no, .no]) (fun pre (st : Ob (PostM C) × St41) => (∃ m, Stt 60 houses st.1.m m st.2.m ∧ m.known.length = senders.toNat ∧ ((min pre.length (mineM m i).length : Nat) : Int) ≤ ix m.taken i) ∧ st.2.m.going.l = [] ∧ st.2.tl.length = st.2.m.taken.length ∧ st.2.m.taken.length = senders.toNat) (z3, x3) (it_rng1 ev_int (by decide)) (.k (.k (.k (.k (.k (.k (.k (.k (.d (.d (.k (.d (.d .n))))))))))))) ⟨⟨m3, hS3, hkn3, by have h9 := hS3.sim.mo.at_ i hi0 (by rw [hS3.sim.mo.tk]; omega); show ((min 0 _ : Nat) : Int) ≤ _; omega⟩, hg3, htl3, htk3⟩ (fun pre4 turn post4 s4 ex4 hs4 Sb4 rb4 => ⟨_, _, tg_name rfl, ?_⟩) (fun s4 hs4 => ?_)
      · obtain ⟨z4, x4⟩ := s4
        obtain ⟨⟨m4, hS4, hkn4, hmi4⟩, hg4, htl4, htk4⟩ : (∃ m, Stt 60 houses z4.m m x4.m ∧ m.known.length = senders.toNat ∧ ((min pre4.length (mineM m i).length : Nat) : Int) ≤ ix m.taken i) ∧ x4.m.going.l = [] ∧ x4.tl.length = x4.m.taken.length ∧ x4.m.taken.length = senders.toNat := hs4
        have hi : 0 ≤ i ∧ i < (m4.known.length : Int) := by omega
        have hpk : z4.m.known.length = m4.known.length := by rw [hS4.sim.kn, List.length_map]
        obtain ⟨o, p5, e5, hh5, m5, hS5, hl5, hkn5, hg5, _, htk5, hmi5⟩ := hS4.takeA hg4 hi
        have hml := mine_len (m := m4) (i := i)
        have hl4 := hS4.sz.l
        show At _ _ _ _ [.im script, .im k, .ow sp1, .im houses, .im at0, .im senders, .ow z4, .ow x4, .im turn, .no, .im i, .no, .no]
        refine q_dropV (ev_callOGU 7 rfl (eau_cons (ev_toU (ev_var (i := 10) rfl)) (eau_cons (evu_meth (i := 6) (by decide +kernel) rfl (eau_of (ea_cons (ev_var (i := 10) rfl) ea_nil)) rfl rfl (by exact ⟨hS4.sim.ok, by dsimp only; omega, by dsimp only; omega⟩) (by exact e5)) (eau_of ea_nil))) rfl (by exact ⟨by dsimp only; omega, htl4, hh5, lt_line (by dsimp only; rw [hS4.j.tk i hi.1 hi.2, List.length_take]; omega)⟩)) fun w hw => ?_
        obtain ⟨u0, x5⟩ := w
        obtain rfl : x5 = { x4 with m := noteM x4.m i o } := hw
        show At _ _ _ _ [.im script, .im k, .ow sp1, .im houses, .im at0, .im senders, .ow (Ob.mk z4.a p5), .ow { x4 with m := noteM x4.m i o }, .im turn, .no, .im i, .no, .no]
        exact q_next (at_mid (.k (.k (.k (.k (.k (.k (.k (.k (.d (.d (.k (.d (.d .n))))))))))))) ⟨(Ob.mk z4.a p5, { x4 with m := noteM x4.m i o }), rfl, ⟨m5, hS5, by rw [hkn5, hkn4], by have h9 := hmi5 _ hmi4; rw [List.length_append, List.length_singleton]; rw [show mineM m5 i = mineM m4 i from by unfold mineM; rw [hl5]]; exact h9⟩, by dsimp only; rw [hg5]; exact hg4, by dsimp only; rw [htk5]; exact htl4, by dsimp only; rw [htk5]; exact htk4⟩)
      obtain ⟨z4, x4⟩ := s4
      obtain ⟨⟨m4, hS4, hkn4, hmi4⟩, hg4, htl4, htk4⟩ : (∃ m, Stt 60 houses z4.m m x4.m ∧ m.known.length = senders.toNat ∧ ((min (rng 0 61).length (mineM m i).length : Nat) : Int) ≤ ix m.taken i) ∧ x4.m.going.l = [] ∧ x4.tl.length = x4.m.taken.length ∧ x4.m.taken.length = senders.toNat := hs4
      have hi : 0 ≤ i ∧ i < (m4.known.length : Int) := by omega
      have hml := mine_len (m := m4) (i := i)
      have hl4 := hS4.sz.l
      rw [show (rng 0 61).length = 61 from rfl] at hmi4
      have hmine := hS4.mine hi (by omega)
      have hsl : (enumI x4.m.sent).length ≤ 1000000 := by
        have h9 : x4.m.sent.length = m4.lets.length := by rw [hS4.j.se, List.length_map]
        unfold enumI
        rw [List.length_map, List.length_zipIdx]
        omega
      show At _ _ _ _ [.im script, .im k, .ow sp1, .im houses, .im at0, .im senders, .ow z4, .ow x4, .no, .no, .im i, .no, .no]
      refine q_ifF (et_test (ev_neF (ef_taken (i := 7) rfl (ev_var (i := 10) rfl) (by omega)) (EvL.ev (el_lcFN (i0 := 7) (z := x4) (fun v : Int × Int => decide (v.2 = i)) (fun v => v.1) (it_enumS (i := 7) rfl) rfl hsl rfl (fun v hm_v => ⟨_, _, tg_pair (tg_name rfl) (tg_name rfl), (by decide), et_test (ev_eq (ev_var (i := 12) rfl) (ev_var (i := 10) rfl)), fun _ => ev_var (i := 11) rfl⟩))))) (by rw [hmine]; simp) ?_
      exact q_next (at_mid (.k (.k (.k (.k (.k (.k (.k (.k (.d (.d (.d (.d (.d .n))))))))))))) ⟨(z4, x4), rfl, ⟨m4, hS4, hkn4⟩, hg4, htl4, htk4⟩)
    obtain ⟨z3, x3⟩ := s3
    obtain ⟨⟨m3, hS3, hkn3⟩, hg3, htl3, htk3⟩ : (∃ m, Stt 60 houses z3.m m x3.m ∧ m.known.length = senders.toNat) ∧ x3.m.going.l = [] ∧ x3.tl.length = x3.m.taken.length ∧ x3.m.taken.length = senders.toNat := hs3
    show At _ _ _ _ [.im script, .im k, .ow sp1, .im houses, .im at0, .im senders, .ow z3, .ow x3, .no, .no, .no, .no, .no]
    refine q_ifF (et_B (sr_wrong (i := 7) rfl)) hS3.j.wr ?_
    exact q_next (at_mid (.k (.d (.d (.d (.d (.d (.d (.d (.d (.d (.d (.d (.d .n))))))))))))) ⟨(), by rfl, by trivial⟩)
  · show At _ _ _ _ [.im script, .no, .no, .no, .no, .no, .no, .no, .no, .no, .no, .no, .no]
    exact q_ret (ev_bl) (hret _ _ (by rfl))
end
end L41
namespace L41
open PySem PySem.Spec PyProof.Rows L2 GL
theorem def_mk {K : Fg} {mg : Str → Option Value} {h : Heap} {x : Str} {st : Stmt} {ps : List Str} {f : Addr} {oc : Value} {od an : Option Addr} {osl : Array (Option Value)} {kV doc pm cdv ct : Value} (X : K.In h) (G : h.Ns mainGlobals mg) (a : PySem.W.nsIn K mainGlobals x = some (some (.ref f)))
    (l : K.lookup f = some ⟨oc, od, .func (PySem.W.fnOf x x (defArgs st) (defBody st) (defScope st) .none kV doc pm an cdv ct), osl⟩) (c : PySem.W.codeIn K cdv x = true) (k : PySem.W.keepIn K (.ref f) = true)
    (hb : ∀ (kV doc pm : Value) (an : Option Addr) (cdv ct : Value) (us : List Value), us.length = ps.length → bindArgs (PySem.W.fnOf x x (defArgs st) (defBody st) (defScope st) .none kV doc pm an cdv ct) ⟨us, []⟩ = pure (ps.zip us)) : Def K mg x st ps :=
  ⟨f, _, PySem.W.mg_of X G a, fun_mk l c k, (fun_mk l c k).binds hb⟩
section
variable {P : Program} {w : World} {K : Fg} {mg : Str → Option Value} {base : Heap}
set_option maxHeartbeats 4000000 in
theorem all_ok {fa : Addr} {fd : FuncData} {C : Addr} {Y : XC → Addr} (T : Tx K mg C Y) (F : Fun K "law" "law" s_law fa fd) : FnOk P w K mg base CX0 6 fa fd ["script"] (spLaw K) := by
  have c_Post : ICal P w K mg base 1 C "Post" ["self", "houses", "at", "senders"] (spMk K Y C (fun a : Int × Int × Int × Unit => (postNew a.1 a.2.1 a.2.2.1 : PostM C)) (fun a => 0 ≤ a.1 ∧ a.1 ≤ 1000 ∧ 0 ≤ a.2.2.1 ∧ a.2.2.1 ≤ 1000)) := ok_Post T
  have c_Post_carry : MCalX P w K mg base 1 C "carry" ["self", "to"] (spT K Y (fun (z : PostM C) (a : Int × Unit) => (postCarry z a.1 : XC ⊕ (Unit × PostM C))) (fun (z : PostM C) (a : Int × Unit) => PostOk z)) := ok_Post_carry T 
  have c_Post_send : MCalX P w K mg base 1 C "send" ["self", "i"] (spT K Y (fun (z : PostM C) (a : Int × Unit) => (postSend z a.1 : XC ⊕ (Int × PostM C))) (fun (z : PostM C) (a : Int × Unit) => PostOk z ∧ 0 ≤ a.1 ∧ a.1 < (z.known.length : Int))) := ok_Post_send T 
  have c_Post_need_letter : MCalX P w K mg base 1 C "need_letter" ["self", "letter"] (spT K Y (fun (z : PostM C) (a : Int × Unit) => (postLetter z a.1 : XC ⊕ (Unit × PostM C))) (fun (z : PostM C) (a : Int × Unit) => True)) := ok_Post_need_letter T 
  have c_Post_need_copy : MCalX P w K mg base 2 C "need_copy" ["self", "letter", "copy"] (spT K Y (fun (z : PostM C) (a : Int × Int × Unit) => (postCopy z a.1 a.2.1 : XC ⊕ (Unit × PostM C))) (fun (z : PostM C) (a : Int × Int × Unit) => PostOk z)) := ok_Post_need_copy T c_Post_need_letter
  have c_Post_double : MCalX P w K mg base 2 C "double" ["self", "letter"] (spT K Y (fun (z : PostM C) (a : Int × Unit) => (postDouble z a.1 : XC ⊕ (Int × PostM C))) (fun (z : PostM C) (a : Int × Unit) => PostOk z)) := ok_Post_double T c_Post_need_letter
  have c_Post_hop : MCalX P w K mg base 3 C "hop" ["self", "letter", "copy"] (spT K Y (fun (z : PostM C) (a : Int × Int × Unit) => (postHop z a.1 a.2.1 : XC ⊕ (Dat × PostM C))) (fun (z : PostM C) (a : Int × Int × Unit) => PostOk z)) := ok_Post_hop T c_Post_need_copy
  have c_Post_hops : MCalX P w K mg base 3 C "hops" ["self", "letter", "copy"] (spT K Y (fun (z : PostM C) (a : Int × Int × Unit) => (postHops z a.1 a.2.1 : XC ⊕ (Int × PostM C))) (fun (z : PostM C) (a : Int × Int × Unit) => PostOk z)) := ok_Post_hops T c_Post_need_copy
  have c_Post_learn : MCalX P w K mg base 1 C "learn" ["self", "i"] (spT K Y (fun (z : PostM C) (a : Int × Unit) => (postLearn z a.1 : XC ⊕ (Unit × PostM C))) (fun (z : PostM C) (a : Int × Unit) => 0 ≤ a.1 ∧ a.1 < (z.known.length : Int))) := ok_Post_learn T 
  have c_Post_take : MCalX P w K mg base 1 C "take" ["self", "i"] (spT K Y (fun (z : PostM C) (a : Int × Unit) => (postTake z a.1 : XC ⊕ ((Option Int) × PostM C))) (fun (z : PostM C) (a : Int × Unit) => PostOk z ∧ 0 ≤ a.1 ∧ a.1 < (z.known.length : Int))) := ok_Post_take T 
  have c__law_spring : Cal P w K mg base 1 "_law_spring" ["script", "k"] (spSpring K) := ok__law_spring T 
  have c__law_cup : Cal P w K mg base 1 "_law_cup" ["spring", "many"] (spM K (fun (z : Spr) (a : Int × Unit) => lawCup z a.1) (fun z a => 0 < a.1 ∧ a.1 < 1073741824)) := ok__law_cup T 
  have c__law_note : Cal P w K mg base 1 "_law_note" ["state", "i", "letter"] (spO K (fun (z : St41) (a : Int × Option Int × Unit) (y : Unit) (z_ : St41) => z_ = { z with m := noteM z.m a.1 a.2.1 }) (fun (z : St41) (a : Int × Option Int × Unit) => NoteP z a.1 a.2.1)) := ok__law_note T 
  have c__law_hopped : Cal P w K mg base 4 "_law_hopped" ["post", "state", "one"] (spO2 K (fun (z : Ob (PostM C)) (y : St41) (a : (Int × Int) × Unit) (b : Bool) (z_ : Ob (PostM C)) (y_ : St41) => z_.a = z.a ∧ (∃ s, y_ = { y with m := s }) ∧ HopR z.m y.m a.1 b z_.m y_.m) (fun (z : Ob (PostM C)) (y : St41) (a : (Int × Int) × Unit) => HopP41 z.m y.m a.1)) := ok__law_hopped T c_Post_hop c_Post_hops
  have c__law_step : Cal P w K mg base 5 "_law_step" ["spring", "post", "state"] (spO3 K (fun (z : Spr) (y : Ob (PostM C)) (x : St41) (a : Unit) (b : Unit) (z_ : Spr) (y_ : Ob (PostM C)) (x_ : St41) => z_.a = z.a ∧ y_.a = y.a ∧ (∃ s, x_ = { x with m := s }) ∧ x_.m.taken.length = x.m.taken.length ∧ ∀ n m T, Stt T n y.m m x.m → T < 900 → ∃ m1, Stt (T + 1) n y_.m m1 x_.m) (fun (z : Spr) (y : Ob (PostM C)) (x : St41) (a : Unit) => x.tl.length = x.m.taken.length ∧ ∃ n m T, Stt T n y.m m x.m ∧ T < 900)) := ok__law_step T c_Post_carry c_Post_learn c_Post_send c_Post_double c_Post_take c__law_cup c__law_note c__law_hopped
  have c__law_start : Cal P w K mg base 2 "_law_start" ["spring"] (spRS K (fun (a : Unit) (y : (T3 Int Int Int)) => StartOk y) (fun a => True)) := ok__law_start T c__law_cup
  exact ok_law T F c_Post c_Post_take c__law_spring c__law_start c__law_step c__law_hopped c__law_note
end
set_option maxHeartbeats 4000000 in
theorem all_mk {l : PySem.W.OpenLaw} {w : World} {K : Fg} {h : Heap} {mg : Str → Option Value} {fa f0 f1 f2 f3 f4 f5 f6 : Addr} (X : K.In h) (G : h.Ns mainGlobals mg) (hfa : mg "law" = some (.ref fa))
    {od0 an0 : Option Addr} {sl0 : Array (Option Value)} {oc0 kV0 dc0 pm0 cd0 ct0 : Value}
    (a0 : PySem.W.nsIn K mainGlobals "_law_spring" = some (some (.ref f0))) (l0 : K.lookup f0 = some ⟨oc0, od0, .func (PySem.W.fnOf "_law_spring" "_law_spring" (defArgs s__law_spring) (defBody s__law_spring) (defScope s__law_spring) .none kV0 dc0 pm0 an0 cd0 ct0), sl0⟩) (c0 : PySem.W.codeIn K cd0 "_law_spring" = true) (k0 : PySem.W.keepIn K (.ref f0) = true)
    {od1 an1 : Option Addr} {sl1 : Array (Option Value)} {oc1 kV1 dc1 pm1 cd1 ct1 : Value}
    (a1 : PySem.W.nsIn K mainGlobals "_law_cup" = some (some (.ref f1))) (l1 : K.lookup f1 = some ⟨oc1, od1, .func (PySem.W.fnOf "_law_cup" "_law_cup" (defArgs s__law_cup) (defBody s__law_cup) (defScope s__law_cup) .none kV1 dc1 pm1 an1 cd1 ct1), sl1⟩) (c1 : PySem.W.codeIn K cd1 "_law_cup" = true) (k1 : PySem.W.keepIn K (.ref f1) = true)
    {od2 an2 : Option Addr} {sl2 : Array (Option Value)} {oc2 kV2 dc2 pm2 cd2 ct2 : Value}
    (a2 : PySem.W.nsIn K mainGlobals "_law_start" = some (some (.ref f2))) (l2 : K.lookup f2 = some ⟨oc2, od2, .func (PySem.W.fnOf "_law_start" "_law_start" (defArgs s__law_start) (defBody s__law_start) (defScope s__law_start) .none kV2 dc2 pm2 an2 cd2 ct2), sl2⟩) (c2 : PySem.W.codeIn K cd2 "_law_start" = true) (k2 : PySem.W.keepIn K (.ref f2) = true)
    {od3 an3 : Option Addr} {sl3 : Array (Option Value)} {oc3 kV3 dc3 pm3 cd3 ct3 : Value}
    (a3 : PySem.W.nsIn K mainGlobals "_law_step" = some (some (.ref f3))) (l3 : K.lookup f3 = some ⟨oc3, od3, .func (PySem.W.fnOf "_law_step" "_law_step" (defArgs s__law_step) (defBody s__law_step) (defScope s__law_step) .none kV3 dc3 pm3 an3 cd3 ct3), sl3⟩) (c3 : PySem.W.codeIn K cd3 "_law_step" = true) (k3 : PySem.W.keepIn K (.ref f3) = true)
    {od4 an4 : Option Addr} {sl4 : Array (Option Value)} {oc4 kV4 dc4 pm4 cd4 ct4 : Value}
    (a4 : PySem.W.nsIn K mainGlobals "_law_note" = some (some (.ref f4))) (l4 : K.lookup f4 = some ⟨oc4, od4, .func (PySem.W.fnOf "_law_note" "_law_note" (defArgs s__law_note) (defBody s__law_note) (defScope s__law_note) .none kV4 dc4 pm4 an4 cd4 ct4), sl4⟩) (c4 : PySem.W.codeIn K cd4 "_law_note" = true) (k4 : PySem.W.keepIn K (.ref f4) = true)
    {od5 an5 : Option Addr} {sl5 : Array (Option Value)} {oc5 kV5 dc5 pm5 cd5 ct5 : Value}
    (a5 : PySem.W.nsIn K mainGlobals "_law_hopped" = some (some (.ref f5))) (l5 : K.lookup f5 = some ⟨oc5, od5, .func (PySem.W.fnOf "_law_hopped" "_law_hopped" (defArgs s__law_hopped) (defBody s__law_hopped) (defScope s__law_hopped) .none kV5 dc5 pm5 an5 cd5 ct5), sl5⟩) (c5 : PySem.W.codeIn K cd5 "_law_hopped" = true) (k5 : PySem.W.keepIn K (.ref f5) = true)
    {od6 an6 : Option Addr} {sl6 : Array (Option Value)} {oc6 kV6 dc6 pm6 cd6 ct6 : Value}
    (a6 : PySem.W.nsIn K mainGlobals "law" = some (some (.ref f6))) (l6 : K.lookup f6 = some ⟨oc6, od6, .func (PySem.W.fnOf "law" "law" (defArgs s_law) (defBody s_law) (defScope s_law) .none kV6 dc6 pm6 an6 cd6 ct6), sl6⟩) (c6 : PySem.W.codeIn K cd6 "law" = true) (k6 : PySem.W.keepIn K (.ref f6) = true)
    {C g0 g1 g2 g3 g4 g5 g6 g7 g8 g9 : Addr} (aC : PySem.W.nsIn K mainGlobals "Post" = some (some (.ref C)))
    {odm0 anm0 : Option Addr} {slm0 : Array (Option Value)} {ocm0 kVm0 dcm0 pmm0 cdm0 ctm0 : Value}
    (am0 : PySem.W.findIn K (.ref C) "__init__" = some (some (.ref g0))) (im0 : PySem.W.isFn K (.ref g0) = true) (lm0 : K.lookup g0 = some ⟨ocm0, odm0, .func (PySem.W.fnOf "__init__" "Post.__init__" (defArgs s_Post___init__) (defBody s_Post___init__) (defScope s_Post___init__) .none kVm0 dcm0 pmm0 anm0 cdm0 ctm0), slm0⟩) (cm0 : PySem.W.codeIn K cdm0 "Post.__init__" = true) (km0 : PySem.W.keepIn K (.ref g0) = true)
    {odm1 anm1 : Option Addr} {slm1 : Array (Option Value)} {ocm1 kVm1 dcm1 pmm1 cdm1 ctm1 : Value}
    (am1 : PySem.W.findIn K (.ref C) "carry" = some (some (.ref g1))) (im1 : PySem.W.isFn K (.ref g1) = true) (lm1 : K.lookup g1 = some ⟨ocm1, odm1, .func (PySem.W.fnOf "carry" "Post.carry" (defArgs s_Post_carry) (defBody s_Post_carry) (defScope s_Post_carry) .none kVm1 dcm1 pmm1 anm1 cdm1 ctm1), slm1⟩) (cm1 : PySem.W.codeIn K cdm1 "Post.carry" = true) (km1 : PySem.W.keepIn K (.ref g1) = true)
    {odm2 anm2 : Option Addr} {slm2 : Array (Option Value)} {ocm2 kVm2 dcm2 pmm2 cdm2 ctm2 : Value}
    (am2 : PySem.W.findIn K (.ref C) "send" = some (some (.ref g2))) (im2 : PySem.W.isFn K (.ref g2) = true) (lm2 : K.lookup g2 = some ⟨ocm2, odm2, .func (PySem.W.fnOf "send" "Post.send" (defArgs s_Post_send) (defBody s_Post_send) (defScope s_Post_send) .none kVm2 dcm2 pmm2 anm2 cdm2 ctm2), slm2⟩) (cm2 : PySem.W.codeIn K cdm2 "Post.send" = true) (km2 : PySem.W.keepIn K (.ref g2) = true)
    {odm3 anm3 : Option Addr} {slm3 : Array (Option Value)} {ocm3 kVm3 dcm3 pmm3 cdm3 ctm3 : Value}
    (am3 : PySem.W.findIn K (.ref C) "need_letter" = some (some (.ref g3))) (im3 : PySem.W.isFn K (.ref g3) = true) (lm3 : K.lookup g3 = some ⟨ocm3, odm3, .func (PySem.W.fnOf "need_letter" "Post.need_letter" (defArgs s_Post_need_letter) (defBody s_Post_need_letter) (defScope s_Post_need_letter) .none kVm3 dcm3 pmm3 anm3 cdm3 ctm3), slm3⟩) (cm3 : PySem.W.codeIn K cdm3 "Post.need_letter" = true) (km3 : PySem.W.keepIn K (.ref g3) = true)
    {odm4 anm4 : Option Addr} {slm4 : Array (Option Value)} {ocm4 kVm4 dcm4 pmm4 cdm4 ctm4 : Value}
    (am4 : PySem.W.findIn K (.ref C) "need_copy" = some (some (.ref g4))) (im4 : PySem.W.isFn K (.ref g4) = true) (lm4 : K.lookup g4 = some ⟨ocm4, odm4, .func (PySem.W.fnOf "need_copy" "Post.need_copy" (defArgs s_Post_need_copy) (defBody s_Post_need_copy) (defScope s_Post_need_copy) .none kVm4 dcm4 pmm4 anm4 cdm4 ctm4), slm4⟩) (cm4 : PySem.W.codeIn K cdm4 "Post.need_copy" = true) (km4 : PySem.W.keepIn K (.ref g4) = true)
    {odm5 anm5 : Option Addr} {slm5 : Array (Option Value)} {ocm5 kVm5 dcm5 pmm5 cdm5 ctm5 : Value}
    (am5 : PySem.W.findIn K (.ref C) "double" = some (some (.ref g5))) (im5 : PySem.W.isFn K (.ref g5) = true) (lm5 : K.lookup g5 = some ⟨ocm5, odm5, .func (PySem.W.fnOf "double" "Post.double" (defArgs s_Post_double) (defBody s_Post_double) (defScope s_Post_double) .none kVm5 dcm5 pmm5 anm5 cdm5 ctm5), slm5⟩) (cm5 : PySem.W.codeIn K cdm5 "Post.double" = true) (km5 : PySem.W.keepIn K (.ref g5) = true)
    {odm6 anm6 : Option Addr} {slm6 : Array (Option Value)} {ocm6 kVm6 dcm6 pmm6 cdm6 ctm6 : Value}
    (am6 : PySem.W.findIn K (.ref C) "hop" = some (some (.ref g6))) (im6 : PySem.W.isFn K (.ref g6) = true) (lm6 : K.lookup g6 = some ⟨ocm6, odm6, .func (PySem.W.fnOf "hop" "Post.hop" (defArgs s_Post_hop) (defBody s_Post_hop) (defScope s_Post_hop) .none kVm6 dcm6 pmm6 anm6 cdm6 ctm6), slm6⟩) (cm6 : PySem.W.codeIn K cdm6 "Post.hop" = true) (km6 : PySem.W.keepIn K (.ref g6) = true)
    {odm7 anm7 : Option Addr} {slm7 : Array (Option Value)} {ocm7 kVm7 dcm7 pmm7 cdm7 ctm7 : Value}
    (am7 : PySem.W.findIn K (.ref C) "hops" = some (some (.ref g7))) (im7 : PySem.W.isFn K (.ref g7) = true) (lm7 : K.lookup g7 = some ⟨ocm7, odm7, .func (PySem.W.fnOf "hops" "Post.hops" (defArgs s_Post_hops) (defBody s_Post_hops) (defScope s_Post_hops) .none kVm7 dcm7 pmm7 anm7 cdm7 ctm7), slm7⟩) (cm7 : PySem.W.codeIn K cdm7 "Post.hops" = true) (km7 : PySem.W.keepIn K (.ref g7) = true)
    {odm8 anm8 : Option Addr} {slm8 : Array (Option Value)} {ocm8 kVm8 dcm8 pmm8 cdm8 ctm8 : Value}
    (am8 : PySem.W.findIn K (.ref C) "learn" = some (some (.ref g8))) (im8 : PySem.W.isFn K (.ref g8) = true) (lm8 : K.lookup g8 = some ⟨ocm8, odm8, .func (PySem.W.fnOf "learn" "Post.learn" (defArgs s_Post_learn) (defBody s_Post_learn) (defScope s_Post_learn) .none kVm8 dcm8 pmm8 anm8 cdm8 ctm8), slm8⟩) (cm8 : PySem.W.codeIn K cdm8 "Post.learn" = true) (km8 : PySem.W.keepIn K (.ref g8) = true)
    {odm9 anm9 : Option Addr} {slm9 : Array (Option Value)} {ocm9 kVm9 dcm9 pmm9 cdm9 ctm9 : Value}
    (am9 : PySem.W.findIn K (.ref C) "take" = some (some (.ref g9))) (im9 : PySem.W.isFn K (.ref g9) = true) (lm9 : K.lookup g9 = some ⟨ocm9, odm9, .func (PySem.W.fnOf "take" "Post.take" (defArgs s_Post_take) (defBody s_Post_take) (defScope s_Post_take) .none kVm9 dcm9 pmm9 anm9 cdm9 ctm9), slm9⟩) (cm9 : PySem.W.codeIn K cdm9 "Post.take" = true) (km9 : PySem.W.keepIn K (.ref g9) = true)
    (pg : PySem.W.plainGet K C Str.empty = true) (hd : PySem.W.hasDictIn K C = true) (po : PySem.W.plainOver K C = true) (sa : PySem.W.findIn K (.ref C) "__setattr__" = some (some (.builtin "object.__setattr__"))) (mk : PySem.W.makesIn K C = true) (kc : PySem.W.keepIn K (.ref C) = true)
    (nf0 : PySem.W.findIn K (.ref C) "leads" = some none)
    (nf1 : PySem.W.findIn K (.ref C) "at" = some none)
    (nf2 : PySem.W.findIn K (.ref C) "carryings" = some none)
    (nf3 : PySem.W.findIn K (.ref C) "known" = some none)
    (nf4 : PySem.W.findIn K (.ref C) "owners" = some none)
    (nf5 : PySem.W.findIn K (.ref C) "copies" = some none)
    (nf6 : PySem.W.findIn K (.ref C) "many" = some none)
    (nf7 : PySem.W.findIn K (.ref C) "is_here" = some none)
    (nf8 : PySem.W.findIn K (.ref C) "due" = some none)
    {q_noHouse q_noLetter : Addr}
    (xn_noHouse : PySem.W.nsIn K mainGlobals "NoHouse" = some (some (.ref q_noHouse))) (xt_noHouse : PySem.W.typeIn K (.ref q_noHouse) = some (.type "type")) (xb_noHouse : PySem.W.subIn K (.ref q_noHouse) (.type "BaseException") = some true) (xd_noHouse : PySem.W.hasDictIn K q_noHouse = true)
    (xx_noHouse : PySem.W.excIn K q_noHouse [.type "ValueError", .type "Exception", .type "BaseException", .type "object"] "ValueError.__new__" = true) (xk_noHouse : PySem.W.keepIn K (.ref q_noHouse) = true) (xg_noHouse : PySem.W.findIn K (.ref q_noHouse) "__getattribute__" = some (some (.builtin "BaseException.__getattribute__"))) (xh_noHouse : PySem.W.findIn K (.ref q_noHouse) "__getattr__" = some none) (xl_noHouse : PySem.W.findIn K (.ref q_noHouse) "__class__" = some (some (.builtin "object.__class__"))) (xm_noHouse : PySem.W.mroIn K q_noHouse (.type "object") = some true)
    (xn_noLetter : PySem.W.nsIn K mainGlobals "NoLetter" = some (some (.ref q_noLetter))) (xt_noLetter : PySem.W.typeIn K (.ref q_noLetter) = some (.type "type")) (xb_noLetter : PySem.W.subIn K (.ref q_noLetter) (.type "BaseException") = some true) (xd_noLetter : PySem.W.hasDictIn K q_noLetter = true)
    (xx_noLetter : PySem.W.excIn K q_noLetter [.type "ValueError", .type "Exception", .type "BaseException", .type "object"] "ValueError.__new__" = true) (xk_noLetter : PySem.W.keepIn K (.ref q_noLetter) = true) (xg_noLetter : PySem.W.findIn K (.ref q_noLetter) "__getattribute__" = some (some (.builtin "BaseException.__getattribute__"))) (xh_noLetter : PySem.W.findIn K (.ref q_noLetter) "__getattr__" = some none) (xl_noLetter : PySem.W.findIn K (.ref q_noLetter) "__class__" = some (some (.builtin "object.__class__"))) (xm_noLetter : PySem.W.mroIn K q_noLetter (.type "object") = some true)
    (xsp : PySem.W.specialIn K (.builtin "object.__class__") "__get__" = some (some (.builtin "getset_descriptor.__get__"))) (xtk : PySem.W.takesIn K (.builtin "object.__class__") = some true)
    (z0 : PySem.W.nsIn K mainGlobals "enumerate" = some none)
    (z1 : PySem.W.nsIn K mainGlobals "len" = some none)
    (z2 : PySem.W.nsIn K mainGlobals "max" = some none)
    (z3 : PySem.W.nsIn K mainGlobals "min" = some none)
    (z4 : PySem.W.nsIn K mainGlobals "range" = some none)
    (z5 : PySem.W.nsIn K mainGlobals "sorted" = some none)
    : ∃ fd : FuncData, (∀ (s : Shared) (v : Value), BindsTo s fd ⟨[v], []⟩ [("script", v)]) ∧ ∀ base : Heap, K.In base → base.Ns mainGlobals mg → FnOk l.prog w K mg base CX0 6 fa fd ["script"] (spLaw K) := by
  have na : ∀ k ∈ postK, NoAttr K C k := fun k hk => by
    simp only [postK,  List.mem_cons, List.mem_nil_iff, or_false] at hk
    rcases hk with e | e | e | e | e | e | e | e | e
    · rw [e]; exact nf0
    · rw [e]; exact nf1
    · rw [e]; exact nf2
    · rw [e]; exact nf3
    · rw [e]; exact nf4
    · rw [e]; exact nf5
    · rw [e]; exact nf6
    · rw [e]; exact nf7
    · rw [e]; exact nf8
  have T : Tx K mg C (xY 0 q_noHouse q_noLetter 0 0 0 0) := ⟨⟨pg, hd, po, sa⟩, na, ⟨g0, _, ⟨mk, am0, im0, kc⟩, fun_mk (st := s_Post___init__) lm0 cm0 km0, (fun_mk (st := s_Post___init__) lm0 cm0 km0).binds (fun _ _ _ _ _ _ us hl => match us, hl with | [_, _, _, _], _ => rfl), PySem.W.mg_of X G aC⟩, ⟨g1, _, ⟨am1, im1, km1⟩, fun_mk (st := s_Post_carry) lm1 cm1 km1, (fun_mk (st := s_Post_carry) lm1 cm1 km1).binds (fun _ _ _ _ _ _ us hl => match us, hl with | [_, _], _ => rfl)⟩, ⟨g2, _, ⟨am2, im2, km2⟩, fun_mk (st := s_Post_send) lm2 cm2 km2, (fun_mk (st := s_Post_send) lm2 cm2 km2).binds (fun _ _ _ _ _ _ us hl => match us, hl with | [_, _], _ => rfl)⟩, ⟨g3, _, ⟨am3, im3, km3⟩, fun_mk (st := s_Post_need_letter) lm3 cm3 km3, (fun_mk (st := s_Post_need_letter) lm3 cm3 km3).binds (fun _ _ _ _ _ _ us hl => match us, hl with | [_, _], _ => rfl)⟩, ⟨g4, _, ⟨am4, im4, km4⟩, fun_mk (st := s_Post_need_copy) lm4 cm4 km4, (fun_mk (st := s_Post_need_copy) lm4 cm4 km4).binds (fun _ _ _ _ _ _ us hl => match us, hl with | [_, _, _], _ => rfl)⟩, ⟨g5, _, ⟨am5, im5, km5⟩, fun_mk (st := s_Post_double) lm5 cm5 km5, (fun_mk (st := s_Post_double) lm5 cm5 km5).binds (fun _ _ _ _ _ _ us hl => match us, hl with | [_, _], _ => rfl)⟩, ⟨g6, _, ⟨am6, im6, km6⟩, fun_mk (st := s_Post_hop) lm6 cm6 km6, (fun_mk (st := s_Post_hop) lm6 cm6 km6).binds (fun _ _ _ _ _ _ us hl => match us, hl with | [_, _, _], _ => rfl)⟩, ⟨g7, _, ⟨am7, im7, km7⟩, fun_mk (st := s_Post_hops) lm7 cm7 km7, (fun_mk (st := s_Post_hops) lm7 cm7 km7).binds (fun _ _ _ _ _ _ us hl => match us, hl with | [_, _, _], _ => rfl)⟩, ⟨g8, _, ⟨am8, im8, km8⟩, fun_mk (st := s_Post_learn) lm8 cm8 km8, (fun_mk (st := s_Post_learn) lm8 cm8 km8).binds (fun _ _ _ _ _ _ us hl => match us, hl with | [_, _], _ => rfl)⟩, ⟨g9, _, ⟨am9, im9, km9⟩, fun_mk (st := s_Post_take) lm9 cm9 km9, (fun_mk (st := s_Post_take) lm9 cm9 km9).binds (fun _ _ _ _ _ _ us hl => match us, hl with | [_, _], _ => rfl)⟩, def_mk X G a0 l0 c0 k0 (fun _ _ _ _ _ _ us hl => match us, hl with | [_, _], _ => rfl), def_mk X G a1 l1 c1 k1 (fun _ _ _ _ _ _ us hl => match us, hl with | [_, _], _ => rfl), def_mk X G a2 l2 c2 k2 (fun _ _ _ _ _ _ us hl => match us, hl with | [_], _ => rfl), def_mk X G a3 l3 c3 k3 (fun _ _ _ _ _ _ us hl => match us, hl with | [_, _, _], _ => rfl), def_mk X G a4 l4 c4 k4 (fun _ _ _ _ _ _ us hl => match us, hl with | [_, _, _], _ => rfl), def_mk X G a5 l5 c5 k5 (fun _ _ _ _ _ _ us hl => match us, hl with | [_, _, _], _ => rfl), def_mk X G a6 l6 c6 k6 (fun _ _ _ _ _ _ us hl => match us, hl with | [_], _ => rfl), PySem.W.mg_none_of X G z0, PySem.W.mg_none_of X G z1, PySem.W.mg_none_of X G z2, PySem.W.mg_none_of X G z3, PySem.W.mg_none_of X G z4, PySem.W.mg_none_of X G z5, ⟨PySem.W.mg_of X G xn_noHouse, xx_noHouse, xk_noHouse, xt_noHouse, xg_noHouse, xh_noHouse, xb_noHouse, xd_noHouse, xl_noHouse, xsp, xtk, xm_noHouse⟩, ⟨PySem.W.mg_of X G xn_noLetter, xx_noLetter, xk_noLetter, xt_noLetter, xg_noLetter, xh_noLetter, xb_noLetter, xd_noLetter, xl_noLetter, xsp, xtk, xm_noLetter⟩⟩
  have e := hfa.symm.trans (PySem.W.mg_of X G a6)
  cases e
  exact ⟨PySem.W.fnOf "law" "law" (defArgs s_law) (defBody s_law) (defScope s_law) .none kV6 dc6 pm6 an6 cd6 ct6, fun s v => .of_eq rfl, fun base _ _ => all_ok T (fun_mk (st := s_law) l6 c6 k6)⟩
end L41
open PySem PySem.W PyProof.Rows in
set_option maxRecDepth 100000 in
set_option maxHeartbeats 0 in
theorem PySem.Challenge.cw_warmove_k41_whole_each_once_in_order_holds : PySem.Challenge.rw_warmove_k41_whole_each_once_in_order.Holds := by
  w_on; o_law; k_head; (case hw => w_witness2)
  k_fill
  refine L2.walk_of (l := PySem.Challenge.rw_warmove_k41_whole_each_once_in_order) (n := 63) (k := 6) (x := "script") (CX := fun _ => L2.CX0) (sp := fun w => GL.spLaw _) rfl (by decide) rfl ⟨rfl, by decide, by decide⟩ (fun w h Y => PySem.W.kIn_of Y) ?F (fun _ _ a ns hl _ hS => ⟨a, ns, rfl, hS, hl, fun _ => rfl⟩) (fun _ _ _ _ _ h => h)
  case F =>
    intro w mg fa h KX G hmg
    refine' L41.all_mk KX G hmg ?a0 ?l0 ?c0 ?k0 ?a1 ?l1 ?c1 ?k1 ?a2 ?l2 ?c2 ?k2 ?a3 ?l3 ?c3 ?k3 ?a4 ?l4 ?c4 ?k4 ?a5 ?l5 ?c5 ?k5 ?a6 ?l6 ?c6 ?k6 ?aC ?am0 ?im0 ?lm0 ?cm0 ?km0 ?am1 ?im1 ?lm1 ?cm1 ?km1 ?am2 ?im2 ?lm2 ?cm2 ?km2 ?am3 ?im3 ?lm3 ?cm3 ?km3 ?am4 ?im4 ?lm4 ?cm4 ?km4 ?am5 ?im5 ?lm5 ?cm5 ?km5 ?am6 ?im6 ?lm6 ?cm6 ?km6 ?am7 ?im7 ?lm7 ?cm7 ?km7 ?am8 ?im8 ?lm8 ?cm8 ?km8 ?am9 ?im9 ?lm9 ?cm9 ?km9 ?pg ?hd ?po ?sa ?mk ?kc ?nf0 ?nf1 ?nf2 ?nf3 ?nf4 ?nf5 ?nf6 ?nf7 ?nf8 ?xn_noHouse ?xt_noHouse ?xb_noHouse ?xd_noHouse ?xx_noHouse ?xk_noHouse ?xg_noHouse ?xh_noHouse ?xl_noHouse ?xm_noHouse ?xn_noLetter ?xt_noLetter ?xb_noLetter ?xd_noLetter ?xx_noLetter ?xk_noLetter ?xg_noLetter ?xh_noLetter ?xl_noLetter ?xm_noLetter ?xsp ?xtk ?z0 ?z1 ?z2 ?z3 ?z4 ?z5
    (case a0 => k_is)
    (case l0 => k_is)
    (case c0 => k_is)
    (case k0 => k_is)
    (case a1 => k_is)
    (case l1 => k_is)
    (case c1 => k_is)
    (case k1 => k_is)
    (case a2 => k_is)
    (case l2 => k_is)
    (case c2 => k_is)
    (case k2 => k_is)
    (case a3 => k_is)
    (case l3 => k_is)
    (case c3 => k_is)
    (case k3 => k_is)
    (case a4 => k_is)
    (case l4 => k_is)
    (case c4 => k_is)
    (case k4 => k_is)
    (case a5 => k_is)
    (case l5 => k_is)
    (case c5 => k_is)
    (case k5 => k_is)
    (case a6 => k_is)
    (case l6 => k_is)
    (case c6 => k_is)
    (case k6 => k_is)
    (case aC => k_is)
    (case am0 => k_is)
    (case im0 => k_is)
    (case lm0 => k_is)
    (case cm0 => k_is)
    (case km0 => k_is)
    (case am1 => k_is)
    (case im1 => k_is)
    (case lm1 => k_is)
    (case cm1 => k_is)
    (case km1 => k_is)
    (case am2 => k_is)
    (case im2 => k_is)
    (case lm2 => k_is)
    (case cm2 => k_is)
    (case km2 => k_is)
    (case am3 => k_is)
    (case im3 => k_is)
    (case lm3 => k_is)
    (case cm3 => k_is)
    (case km3 => k_is)
    (case am4 => k_is)
    (case im4 => k_is)
    (case lm4 => k_is)
    (case cm4 => k_is)
    (case km4 => k_is)
    (case am5 => k_is)
    (case im5 => k_is)
    (case lm5 => k_is)
    (case cm5 => k_is)
    (case km5 => k_is)
    (case am6 => k_is)
    (case im6 => k_is)
    (case lm6 => k_is)
    (case cm6 => k_is)
    (case km6 => k_is)
    (case am7 => k_is)
    (case im7 => k_is)
    (case lm7 => k_is)
    (case cm7 => k_is)
    (case km7 => k_is)
    (case am8 => k_is)
    (case im8 => k_is)
    (case lm8 => k_is)
    (case cm8 => k_is)
    (case km8 => k_is)
    (case am9 => k_is)
    (case im9 => k_is)
    (case lm9 => k_is)
    (case cm9 => k_is)
    (case km9 => k_is)
    (case pg => k_is)
    (case hd => k_is)
    (case po => k_is)
    (case sa => k_is)
    (case mk => k_is)
    (case kc => k_is)
    (case nf0 => k_is)
    (case nf1 => k_is)
    (case nf2 => k_is)
    (case nf3 => k_is)
    (case nf4 => k_is)
    (case nf5 => k_is)
    (case nf6 => k_is)
    (case nf7 => k_is)
    (case nf8 => k_is)
    (case xn_noHouse => k_is)
    (case xt_noHouse => k_is)
    (case xb_noHouse => k_is)
    (case xd_noHouse => k_is)
    (case xx_noHouse => k_exc)
    (case xk_noHouse => k_is)
    (case xg_noHouse => k_is)
    (case xh_noHouse => k_is)
    (case xl_noHouse => k_is)
    (case xm_noHouse => k_is)
    (case xn_noLetter => k_is)
    (case xt_noLetter => k_is)
    (case xb_noLetter => k_is)
    (case xd_noLetter => k_is)
    (case xx_noLetter => k_exc)
    (case xk_noLetter => k_is)
    (case xg_noLetter => k_is)
    (case xh_noLetter => k_is)
    (case xl_noLetter => k_is)
    (case xm_noLetter => k_is)
    (case xsp => k_is)
    (case xtk => k_is)
    (case z0 => k_is)
    (case z1 => k_is)
    (case z2 => k_is)
    (case z3 => k_is)
    (case z4 => k_is)
    (case z5 => k_is)
#print axioms PySem.Challenge.cw_warmove_k41_whole_each_once_in_order_holds
