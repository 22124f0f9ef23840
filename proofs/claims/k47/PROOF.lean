import PyProof.Rows.All
import Wide.All
import OpenK.AllK
import Wide.FinOn
import HandS.ForMost
import HandS.TupMul
import HandS.TupAny
import HandS.Style
import KE.KRevSl
import HandS.More
import HandS.Conv
import HandS.SetKeys
import HandS.IsInst
import HandS.Defaults
import PySem.Challenge.RW_undobystate_k47_whole_joins_by_whomever
import KE.KStateDown
import Lean
import HandS.Head0
import HandS.Head1
import HandS.Head2
import HandS.HeadEnd
import HandS.HeadHook1
import HandS.HeadHook2
set_option Elab.async false
set_option linter.all false
set_option maxRecDepth 100000
set_option maxHeartbeats 4000000
/-! Three rules that the hand layer lacks: () * k, {t: v} for a tuple t, t[::-1] of a tuple. -/
namespace K47
open PySem PySem.Spec PyProof.Rows L2

/-! ### () * k -/
theorem tuple_mul0 (l : Addr) (items : Array Value) (n : Nat) (dd : Option Addr) (sl : Array (Option Value)) (x : Int) (u : Tok) (c0 : (decide (x < -(2 ^ 63)) || decide (x ≥ 2 ^ 63)) = false) (c1 : (items.isEmpty || x == 1) = true) :
    Meets (Builtin.«tuple.__mul__» ⟨[.ref l, .int x u], []⟩) (fun _ R s => s.heap.get? l = some { cls := .type "tuple", dict := dd, data := .seq items n, slots := sl } ∧ R (.ok (.ret (Value.ref l))) s) :=
  .of_wp fun prog w A R s h => by
    obtain ⟨hp, g, d, tk, os⟩ := s
    obtain ⟨hl, h⟩ := h
    have f1 := AutoSeq1.idx_int
    wp_walk using wpAny_loadPart' hl
    repeat (first
      | (refine wpAny_ite_false (decide_eq_false (by rw [c0]; exact Bool.false_ne_true)) ?_; wp_walk using wpAny_loadPart' hl)
      | (refine wpAny_ite_true (decide_eq_true (by rw [c1])) ?_; wp_walk using wpAny_loadPart' hl))
    exact ⟨_, rfl, h⟩
def rRep0 (K : PySem.W.Frag) : R2 := fun x y H Q => ∃ l k, x = .ref l ∧ y = .int k ∧ SqT K H l [] ∧ 0 ≤ k ∧ k ≤ 1000 ∧ Q (.ref l) H
theorem op_rep0 {X : Cx} : OpR X (binaryOp .Mult) (rRep0 X.K) := by
  intro pins s σ H x y v u Q I rx ry h
  obtain ⟨l, k, rfl, rfl, hT, h1, h2, q⟩ := h
  cases rx
  obtain ⟨t, rfl⟩ := ry
  obtain ⟨its, r, ⟨⟨cls, dd, data, sl⟩, ho, hc, n, hd⟩, hs⟩ := I.tuple hT
  simp only at hc hd
  subst hc hd
  cases r
  have c0 : (decide (k < -(2 ^ 63)) || decide (k ≥ 2 ^ 63)) = false := by
    rw [decide_eq_false (by omega), decide_eq_false (by omega)] <;> rfl
  refine wpAny_binaryOp_repeat_ref (T := "tuple") (U := "int") (by decide) ⟨_, ho, rfl⟩ (fun s' => typeIs_int s' k t) noFill_tuple_mul F.fills_int_mul F.slot_int_rmul repeat_tuple F.slot_int_index.lookup
    (call_meets F.slot_int_rmul (typeIs_int s k t) F.entry_int_rmul (F.args_int_rmul_2 _ _) (int_rmul_tuple k t l _ n dd sl)
      ⟨ho, rfl, ⟨_, ho, rfl⟩, call_meets F.slot_tuple_mul ⟨_, ho, rfl⟩ F.entry_tuple_mul (F.args_tuple_mul_2 _ _) (tuple_mul0 l _ n dd sl k t c0 rfl) ⟨ho, ?_⟩⟩)
  exact ⟨.ref l, H, I, rfl, q⟩

/-! ### {t: v} -/
def tDispT (tk tv : TE) : TE := fun σ H Q => ∀ p, H p = none → tk σ (upd H p (.dT [])) fun x H1 => tv σ H1 fun y H2 => ∃ (b : Addr) (k : List Key), x = .ref b ∧ H2 p = some (.dT []) ∧ H2 b = some (.tup (k.map kV)) ∧ Q (.ref p) (upd H2 p (.dT [(k, y)]))
theorem pe_dispT {X : Cx} {pos : Pos} {k v : Expr} {tk tv : TE} (hu : X.A.units + 1 < cLine) (hk : PE X k tk) (hv : PE X v tv) : PE X (.Dict [some k] [v] pos) (tDispT tk tv) := by
  refine ⟨fun pins s σ H Q I q => ?_⟩
  have hn := I.hok.fresh (Nat.le_refl s.heap.objs.size)
  have I1 := I.laid (a := s.heap.objs.size) (o := .dT []) (h' := s.heap.push { cls := .type "dict", data := .dict #[] }) (t' := s.toks) (fun _ _ q => Heap.get?_push_of_some _ q) (Nat.le_refl _) (dt_empty s.heap I.big)
  rw [arm_eval_Dict, zip_pairTrees [some k] [v] X.env pos rfl rfl, dictDisplay_pairs (pairTrees [some k] [v] X.env pos) (by intro z; cases z) (by show 1 < 17; decide)]
  refine wpAny_bind (wpAny_standAt (wpAny_bind ?_))
  unfold subDict
  refine wpAny_bind (wpAny_alloc ?_)
  refine wpAny_bind (wpAny_holding ?_)
  rw [if_pos (show (pairTrees [some k] [v] X.env pos).length ≤ 15 by show 1 ≤ 15; decide)]
  refine wpAny_bind (pairTrees_cons_walk (thn (hk.run pins _ σ _ _ I1 (q _ hn)) fun u s1 ⟨x, H1, I2, rx, q1⟩ => thn (hv.run pins s1 σ H1 _ I2 q1) fun w2 s2 ⟨y, H2, I3, ry, b, kk, ex, e1, e2, q2⟩ => pairTrees_nil_walk ?_))
  subst ex
  cases rx
  refine wpAny_holding ?_
  rw [List.forIn_cons]
  obtain ⟨z, hd, xs, rel, dd⟩ := dt_of I3.hok e1
  cases rel
  refine wpAny_bind (wpAny_bind ?_)
  show wpAny _ _ (do dictSet s.heap.objs.size (.ref b) w2; pure (ForInStep.yield PUnit.unit)) _ _ _
  refine wpAny_bind (wpAny_dictSet_heap (hsz := Nat.zero_le _) (show X.A.units < cLine by omega) (key_of I3.hok e2) dd fun h' dd' hs => wpAny_pure ?_)
  show wpAny _ _ (forIn [] PUnit.unit _) _ _ _
  rw [List.forIn_nil]
  refine wpAny_pure (wpAny_pure (wpAny_pure (wpAny_pure ?_)))
  obtain ⟨q', es, ep, hq, h2, h3, h4, _, h5⟩ := dd'
  refine ⟨.ref s.heap.objs.size, upd H2 s.heap.objs.size (.dT [(kk, y)]), d_write (ob := .dT [(kk, y)]) I3 (by rw [e1]; exact True.intro) hs ⟨q', hq⟩ ⟨(by show 1 ≤ sizeLine; rw [sizeLine_eq]; decide), hd, _, KT.keeps (KT.put (H := H2) (kvs := []) (xs := []) Paired.nil kk e2 ry) fun c ys ec => ?_, q', es, ep, hq, h2, h3, h4, h5⟩, rfl, q2⟩
  rw [upd_ne (ne_of ec e1 (fun z => nomatch z))]
  exact ec

/-! ### t[::-1] -/
theorem slicePart_m1 {prog : Program} {w : World} {A : Around} {E : Value → Shared → Prop} {s : Shared} {v : Value} {o : Option Int} {Q : Option Int → Shared → Prop} (p : IsPart v o) (h : Q o s) : wpAny (model prog w) A (Builtin.Slice.slicePartIndex v) Q E s := HT.slicePart_ p h
theorem sliceApplied_rev {prog : Program} {w : World} {A : Around} {E : Value → Shared → Prop} {s : Shared} {sl : Addr} {vl vu vs : Value} {n : Nat} {Q : Int × Int × Nat → Shared → Prop} (hs : s.heap.IsSliceOf sl vl vu vs) (pl : IsPart vl none) (pu : IsPart vu none) (ps : IsPart vs (some (-1)))
    (h : Q ((n : Int) - 1, -1, n) s) : wpAny (model prog w) A (Builtin.Slice.sliceApplied (.ref sl) (pure (n : Int))) Q E s := by
  obtain ⟨os, hos, hcs, hds⟩ := hs
  unfold Builtin.Slice.sliceApplied Builtin.Slice.sliceFields
  refine wpAny_bind (wpAny_bind (wpAny_field hos hds (x := vl) rfl (wpAny_bind (wpAny_field hos hds (x := vu) rfl (wpAny_bind (wpAny_field hos hds (x := vs) rfl (wpAny_pure ?_)))))))
  refine wpAny_bind (HT.slicePart_ ps ?_)
  show wpAny _ _ (if ((-1 : Int) == 0) = true then _ else _) _ _ s
  rw [if_neg (by decide)]
  refine wpAny_bind (HT.slicePart_ pl (wpAny_bind (HT.slicePart_ pu (wpAny_bind (wpAny_pure ?_)))))
  show wpAny _ _ (match Builtin.Slice.sliceAdjust none none (-1) (n : Int) with | (lo, hi) => pure (lo, (-1 : Int), Builtin.Slice.slicePlaces lo hi (-1))) _ _ s
  have e1 : Builtin.Slice.sliceAdjust none none (-1) (n : Int) = ((n : Int) - 1, -1) := rfl
  rw [e1]
  show wpAny _ _ (pure ((n : Int) - 1, (-1 : Int), Builtin.Slice.slicePlaces ((n : Int) - 1) (-1) (-1))) _ _ s
  have e2 : Builtin.Slice.slicePlaces ((n : Int) - 1) (-1) (-1) = n := by
    unfold Builtin.Slice.slicePlaces
    have h1 : ¬ ((-1 : Int) > 0) := by omega
    have h2 : (- -1 : Int) = 1 := by omega
    simp only [h1, if_false, h2, Int.ediv_one]
    split <;> omega
  rw [e2]
  exact wpAny_pure h
theorem pick_rev (xs : Array Value) : ((List.range xs.size).filterMap fun (m : Nat) => xs[(((xs.size : Int) - 1) + (m : Int) * (-1)).toNat]?).toArray = xs.toList.reverse.toArray := by
  have e : (List.range xs.size).filterMap (fun (m : Nat) => xs[(((xs.size : Int) - 1) + (m : Int) * (-1)).toNat]?) = ((List.range xs.size).map fun k => xs.size - 1 - k).filterMap (xs[·]?) := by
    rw [List.filterMap_map]
    have key : ∀ (l : List Nat), (∀ m ∈ l, m < xs.size) → l.filterMap (fun (m : Nat) => xs[(((xs.size : Int) - 1) + (m : Int) * (-1)).toNat]?) = l.filterMap ((xs[·]?) ∘ fun k => xs.size - 1 - k) := by
      intro l
      induction l with
      | nil => intro _; rfl
      | cons m r ih =>
        intro hl
        have e1 := ih fun k hk => hl k (List.mem_cons_of_mem _ hk)
        have hm := hl m (List.mem_cons_self ..)
        have e : (((xs.size : Int) - 1) + (m : Int) * (-1)).toNat = xs.size - 1 - m := by omega
        rw [List.filterMap_cons, List.filterMap_cons, e1, e]
        rfl
    exact key _ fun m hm => List.mem_range.mp hm
  rw [e, PySem.W.krv_range, List.filterMap_reverse, PySem.W.krv_all]
theorem getItem_tuple_rev {prog : Program} {w : World} {A : Around} {E : Value → Shared → Prop} {s : Shared} {t sl : Addr} {items : Array Value} {vl vu vs : Value} {Q : Value → Shared → Prop} (ht : IsTup s.heap t items) (hs : s.heap.IsSliceOf sl vl vu vs) (pl : IsPart vl none) (pu : IsPart vu none) (ps : IsPart vs (some (-1)))
    (h : Q (.ref s.heap.objs.size) { s with heap := s.heap.push { cls := .type "tuple", data := .seq items.toList.reverse.toArray } })
    (hsz : items.size ≤ sizeLine) : wpAny (model prog w) A (getItem (.ref t) (.ref sl)) Q E s := by
  have htake : sizeOk (.seq items.toList.reverse.toArray) := by
    show items.toList.reverse.toArray.size ≤ sizeLine
    rw [List.size_toArray, List.length_reverse, Array.length_toList]
    exact hsz
  obtain ⟨os, hos, hcs, hds⟩ := id hs
  have hTs : s.TypeIs (.ref sl) "slice" := ⟨os, hos, hcs⟩
  unfold getItem
  try with_reducible refine wpAny_holding ?_
  first | refine wpAny_bind (wpAny_pure ?_) | skip
  refine wpAny_bind (wpAny_sequenceKey ht.typeIs (by decide) ?_)
  refine wpAny_bind (wpAny_callSpecial?_slot (name := Str.ofString "__getitem__") ht.typeIs PyProof.Rows.slot_tuple_getitem
    (wpAny_call_entry PyProof.Rows.slot_tuple_getitem ht.typeIs entry_tuple_getitem ?_ (args_tuple_getitem _ _)))
  show wpAny _ _ (Builtin.Tuple.tupleItemsOf (.ref t) >>= _) _ _ s
  refine wpAny_bind (tupleItemsOf_ ht ?_)
  refine wpAny_bind (wpAny_typeOf hTs ?_)
  rw [if_pos (by decide)]
  refine wpAny_bind (sliceApplied_rev hs pl pu ps ?_)
  have hno : ¬ ((((items.size : Int) - 1) == 0 && (-1 : Int) == 1 && items.size == items.size) = true) := by
    intro q
    rw [Bool.and_eq_true, Bool.and_eq_true] at q
    exact absurd q.1.2 (by decide)
  show wpAny _ _ (if (((items.size : Int) - 1) == 0 && (-1 : Int) == 1 && items.size == items.size) = true then _ else _) _ _ s
  rw [if_neg hno, pick_rev]
  first
    | exact wpAny_bind (m := Builtin.Tuple.tupleExact _) (wpAny_newObj_type (wpAny_pure ⟨_, rfl, wpAny_pure h⟩) htake)
    | exact wpAny_bind (m := Builtin.Tuple.tupleExact _) (wpAny_newObj_type (wpAny_bind (wpAny_pure (wpAny_pure ⟨_, rfl, wpAny_pure h⟩))) htake)
    | exact wpAny_bind (wpAny_bind (m := Builtin.Tuple.tupleExact _) (wpAny_newObj_type (wpAny_pure (wpAny_pure ⟨_, rfl, wpAny_pure h⟩)) htake))
    | exact wpAny_bind (wpAny_bind (m := Builtin.Tuple.tupleExact _) (wpAny_newObj_type (wpAny_pure ⟨_, rfl, wpAny_pure h⟩) htake))
def tRevT (K : PySem.W.Frag) (te : TE) : TE := fun σ H Q => te σ H fun x H1 => ∃ a xs, x = .ref a ∧ SqT K H1 a xs ∧ ∀ p, H1 p = none → Q (.ref p) (upd H1 p (.tup xs.reverse))
theorem pe_revT {X : Cx} {e : Expr} {te : TE} {k : Nat} {p1 p2 p3 pos : Pos} (he : PE X e te) : PE X (.Subscript e (.Slice none none (some (.UnaryOp .USub (.Constant (.int 1) k p1) p2)) p3) pos) (tRevT X.K te) := by
  refine ⟨fun pins s σ H Q I h => ?_⟩
  refine Subscript_ (thn (he.run pins s σ H _ I h) fun v s1 ⟨x, H1, I1, r1, q1⟩ => ?_)
  obtain ⟨a, xs, ex, hx, q⟩ := q1
  subst ex
  cases r1
  have hst : PO X (some (.UnaryOp .USub (.Constant (.int 1) k p1) p2)) (tPart (tUn (rU fun i => .int (-i)) (tC (.int 1)))) := po_some (pe_un un_neg pe_int)
  refine wpAny_Slice (thn (po_none.run pins s1 σ H1 (fun o H2 => o = none ∧ H2 = H1) I1 ⟨rfl, rfl⟩) fun vl s2 ⟨l, H2, I2, pl, el, e2⟩ => ?_)
  subst el e2
  refine thn (po_none.run pins s2 σ H2 (fun o H3 => o = none ∧ H3 = H2) I2 ⟨rfl, rfl⟩) fun vu s3 ⟨u, H3, I3, pu, eu, e3⟩ => ?_
  subst eu e3
  refine thn (hst.run pins s3 σ H3 (fun o H4 => o = some (-1) ∧ H4 = H3) I3 ⟨1, rfl, -1, rfl, rfl, rfl⟩) fun vs s4 ⟨o, H4, I4, ps, eo, e4⟩ => ?_
  subst eo e4
  have I5 : Inv X pins σ H4 { s4 with heap := s4.heap.push { cls := .type "slice", data := .fields #[vl, vu, vs] } } := I4.kept (t' := s4.toks) fun b ob q => Heap.get?_push_of_some _ q
  obtain ⟨its, r, ht, hz⟩ := I5.tuple hx
  have hlen := r.length
  show wpAny (model X.prog X.w) X.A (subscriptTail e (.Slice none none (some (.UnaryOp .USub (.Constant (.int 1) k p1) p2)) p3) (.ref a) (.ref s4.heap.objs.size)) (EP X pins σ Q) X.xe { s4 with heap := s4.heap.push { cls := .type "slice", data := .fields #[vl, vu, vs] } }
  refine tail_any (ops := [.ref a, .ref s4.heap.objs.size]) ht.typeIs (PyProof.Rows.slot_tuple_getitem.lookup) ?_ (by with_unfolding_all rfl)
  refine getItem_tuple_rev ht (Heap.IsSliceOf.new _ vl vu vs) pl pu ps ?_ (by rw [List.size_toArray]; omega)
  refine ⟨.ref _, _, I5.laid (t' := s4.toks) (o := .tup xs.reverse) (fun b ob q => Heap.get?_push_of_some _ q) (Nat.le_refl _) ?_, rfl, q _ (I5.hok.fresh (Nat.le_refl _))⟩
  exact ⟨by rw [List.length_reverse]; exact hz, _, r.reverse, IsTup.new _ _⟩
end K47

set_option Elab.async false
set_option linter.all false
set_option maxRecDepth 100000
set_option maxHeartbeats 4000000
/-! A logic over the hand layer: data D, a frozen view F of the heap H, cells, weakest preconditions over slots. -/
namespace K47
open PySem L2

/-! ### data -/
inductive D where
  | non | bl (b : Bool) | int (i : Int) | str (x : Str) | tup (ds : List D) | lst (ds : List D)

mutual
def Is (F : Hp) : D → V → Prop
  | .non, v => v = .non
  | .bl b, v => v = .bl b
  | .int i, v => v = .int i
  | .str x, v => v = .str x
  | .tup ds, v => ∃ a vs, v = .ref a ∧ F a = some (.tup vs) ∧ IsL F ds vs
  | .lst ds, v => ∃ a vs, v = .ref a ∧ F a = some (.lst vs) ∧ IsL F ds vs
def IsL (F : Hp) : List D → List V → Prop
  | [], vs => vs = []
  | d :: ds, vs => ∃ v r, vs = v :: r ∧ Is F d v ∧ IsL F ds r
end

def Ex (F H : Hp) : Prop := ∀ a o, F a = some o → H a = some o
theorem Ex.refl (H : Hp) : Ex H H := fun _ _ h => h
theorem Ex.trans {F G H : Hp} (a : Ex F G) (b : Ex G H) : Ex F H := fun x o h => b x o (a x o h)
theorem Ex.new {H : Hp} {p : Addr} {o : HO} (h : H p = none) : Ex H (upd H p o) := fun a u e => by
  rw [upd_ne (ne_of_none e h)]
  exact e
theorem Ex.mut {F H : Hp} {p : Addr} {o : HO} (e : Ex F H) (h : F p = none) : Ex F (upd H p o) := fun a u ha => by
  rw [upd_ne (ne_of_none ha h)]
  exact e a u ha
theorem Ex.both {F H : Hp} {p : Addr} {o : HO} (e : Ex F H) : Ex (upd F p o) (upd H p o) := fun a u ha => by
  by_cases h : a = p
  · subst h; rw [upd_same] at ha ⊢; exact ha
  · rw [upd_ne h] at ha ⊢; exact e a u ha
theorem Ex.back {F H : Hp} (e : Ex F H) {p : Addr} (h : H p = none) : F p = none := by
  cases q : F p with
  | none => rfl
  | some o => rw [e p o q] at h; cases h

mutual
theorem Is.mono {F G : Hp} (e : Ex F G) : ∀ {d : D} {v : V}, Is F d v → Is G d v
  | .non, _, h => h
  | .bl _, _, h => h
  | .int _, _, h => h
  | .str _, _, h => h
  | .tup ds, v, h => by
    obtain ⟨a, vs, h1, h2, h3⟩ := (show ∃ a vs, v = .ref a ∧ F a = some (.tup vs) ∧ IsL F ds vs from h)
    exact ⟨a, vs, h1, e _ _ h2, IsL.mono e h3⟩
  | .lst ds, v, h => by
    obtain ⟨a, vs, h1, h2, h3⟩ := (show ∃ a vs, v = .ref a ∧ F a = some (.lst vs) ∧ IsL F ds vs from h)
    exact ⟨a, vs, h1, e _ _ h2, IsL.mono e h3⟩
theorem IsL.mono {F G : Hp} (e : Ex F G) : ∀ {ds : List D} {vs : List V}, IsL F ds vs → IsL G ds vs
  | [], _, h => h
  | d :: ds, vs, h => by
    obtain ⟨v, r, h1, h2, h3⟩ := (show ∃ v r, vs = v :: r ∧ Is F d v ∧ IsL F ds r from h)
    exact ⟨v, r, h1, Is.mono e h2, IsL.mono e h3⟩
end
theorem IsL.length {F : Hp} : ∀ {ds : List D} {vs : List V}, IsL F ds vs → vs.length = ds.length
  | [], vs, h => by have h : vs = [] := h; subst h; rfl
  | d :: ds, vs, h => by
    obtain ⟨v, r, h1, h2, h3⟩ := h
    subst h1
    show r.length + 1 = ds.length + 1
    rw [IsL.length h3]
theorem IsL.get {F : Hp} : ∀ {ds : List D} {vs : List V} {i : Nat} {d : D}, IsL F ds vs → ds[i]? = some d → ∃ v, vs[i]? = some v ∧ Is F d v
  | [], vs, i, d, h, e => by simp at e
  | x :: ds, vs, 0, d, h, e => by
    obtain ⟨v, r, h1, h2, h3⟩ := h
    subst h1
    have e' : x = d := by simpa using e
    subst e'
    exact ⟨v, rfl, h2⟩
  | x :: ds, vs, i + 1, d, h, e => by
    obtain ⟨v, r, h1, h2, h3⟩ := h
    subst h1
    obtain ⟨v', e1, e2⟩ := IsL.get (i := i) h3 (by simpa using e)
    exact ⟨v', by simpa using e1, e2⟩
theorem IsL.get' {F : Hp} : ∀ {ds : List D} {vs : List V} {i : Nat} {v : V}, IsL F ds vs → vs[i]? = some v → ∃ d, ds[i]? = some d ∧ Is F d v
  | [], vs, i, d, h, e => by
    have h : vs = [] := h
    subst h; simp at e
  | x :: ds, vs, 0, d, h, e => by
    obtain ⟨v, r, h1, h2, h3⟩ := h
    subst h1
    have e' : v = d := by simpa using e
    subst e'
    exact ⟨x, rfl, h2⟩
  | x :: ds, vs, i + 1, d, h, e => by
    obtain ⟨v, r, h1, h2, h3⟩ := h
    subst h1
    obtain ⟨v', e1, e2⟩ := IsL.get' (i := i) h3 (by simpa using e)
    exact ⟨v', by simpa using e1, e2⟩
theorem IsL.append {F : Hp} : ∀ {ds es : List D} {vs us : List V}, IsL F ds vs → IsL F es us → IsL F (ds ++ es) (vs ++ us)
  | [], es, vs, us, h, k => by
    have h : vs = [] := h
    subst h; exact k
  | d :: ds, es, vs, us, h, k => by
    obtain ⟨v, r, h1, h2, h3⟩ := h
    subst h1
    exact ⟨v, r ++ us, rfl, h2, IsL.append h3 k⟩
theorem IsL.one {F : Hp} {d : D} {v : V} (h : Is F d v) : IsL F [d] [v] := ⟨v, [], rfl, h, rfl⟩
theorem IsL.nil {F : Hp} : IsL F [] [] := rfl
theorem IsL.cons {F : Hp} {d : D} {v : V} {ds : List D} {vs : List V} (h : Is F d v) (t : IsL F ds vs) : IsL F (d :: ds) (v :: vs) := ⟨v, vs, rfl, h, t⟩
theorem IsL.drop {F : Hp} : ∀ {ds : List D} {vs : List V} (n : Nat), IsL F ds vs → IsL F (ds.drop n) (vs.drop n)
  | _, _, 0, h => h
  | [], vs, n + 1, h => by
    have h : vs = [] := h
    subst h; exact rfl
  | d :: ds, vs, n + 1, h => by
    obtain ⟨v, r, h1, h2, h3⟩ := h
    subst h1
    exact IsL.drop n h3
theorem IsL.take {F : Hp} : ∀ {ds : List D} {vs : List V} (n : Nat), IsL F ds vs → IsL F (ds.take n) (vs.take n)
  | _, _, 0, h => rfl
  | [], vs, n + 1, h => by
    have h : vs = [] := h
    subst h; exact rfl
  | d :: ds, vs, n + 1, h => by
    obtain ⟨v, r, h1, h2, h3⟩ := h
    subst h1
    exact ⟨v, r.take n, rfl, h2, IsL.take n h3⟩
theorem IsL.reverse {F : Hp} : ∀ {ds : List D} {vs : List V}, IsL F ds vs → IsL F ds.reverse vs.reverse
  | [], vs, h => by
    have h : vs = [] := h
    subst h; exact rfl
  | d :: ds, vs, h => by
    obtain ⟨v, r, h1, h2, h3⟩ := h
    subst h1
    rw [List.reverse_cons, List.reverse_cons]
    exact IsL.append (IsL.reverse h3) (IsL.one h2)
theorem IsL.rep {F : Hp} {ds : List D} {vs : List V} (h : IsL F ds vs) : ∀ k : Nat, IsL F (List.replicate k ds).flatten (List.replicate k vs).flatten
  | 0 => rfl
  | k + 1 => by
    rw [List.replicate_succ, List.replicate_succ, List.flatten_cons, List.flatten_cons]
    exact IsL.append h (IsL.rep h k)
theorem IsL.eraseIdx {F : Hp} : ∀ {ds : List D} {vs : List V} (i : Nat), IsL F ds vs → IsL F (ds.eraseIdx i) (vs.eraseIdx i)
  | [], vs, _, h => by
    have h : vs = [] := h
    subst h; exact rfl
  | d :: ds, vs, 0, h => by
    obtain ⟨v, r, h1, h2, h3⟩ := h
    subst h1
    exact h3
  | d :: ds, vs, i + 1, h => by
    obtain ⟨v, r, h1, h2, h3⟩ := h
    subst h1
    exact ⟨v, r.eraseIdx i, rfl, h2, IsL.eraseIdx i h3⟩
theorem IsL.ints {F : Hp} : ∀ (ns : List Int), IsL F (ns.map D.int) (ns.map V.int)
  | [] => rfl
  | n :: ns => ⟨.int n, ns.map V.int, rfl, rfl, IsL.ints ns⟩
theorem IsL.ints_eq {F : Hp} : ∀ {ns : List Int} {vs : List V}, IsL F (ns.map D.int) vs → vs = ns.map V.int
  | [], vs, h => h
  | n :: ns, vs, h => by
    obtain ⟨v, r, h1, h2, h3⟩ := h
    have h2 : v = .int n := h2
    subst h1; subst h2
    rw [IsL.ints_eq h3] <;> rfl
theorem IsL.bls_eq {F : Hp} : ∀ {ns : List Bool} {vs : List V}, IsL F (ns.map D.bl) vs → vs = ns.map V.bl
  | [], vs, h => h
  | n :: ns, vs, h => by
    obtain ⟨v, r, h1, h2, h3⟩ := h
    have h2 : v = .bl n := h2
    subst h1; subst h2
    rw [IsL.bls_eq h3] <;> rfl

/-! ### cells -/
inductive Cell where
  | imm (d : D)
  | ol (p : Addr) (ds : List D)
  | dk (p : Addr) (kvs : List (Int × D))
  | dt (p : Addr) (kvs : List ((Int × Int) × D))
  | dl (p : Addr) (kvs : List ((Int × Int) × D))
  | st (p : Addr)
abbrev Rho := List (Option Cell)
def Cell.own : Cell → Option Addr
  | .imm _ => none
  | .ol p _ => some p
  | .dk p _ => some p
  | .dt p _ => some p
  | .dl _ _ => none
  | .st p => some p
/-- entries of a dict -/
def KvI (F : Hp) (kvs : List (Int × D)) (kv : List (Key × V)) : Prop := Paired (fun (q : Int × D) (p : Key × V) => p.1 = Sum.inl q.1 ∧ Is F q.2 p.2) kvs kv
def pk (k : Int × Int) : List Key := [Sum.inl k.1, Sum.inl k.2]
def KvP (F : Hp) (kvs : List ((Int × Int) × D)) (kv : List (List Key × V)) : Prop := Paired (fun (q : (Int × Int) × D) (p : List Key × V) => p.1 = pk q.1 ∧ Is F q.2 p.2) kvs kv
theorem KvI.mono {F G : Hp} (e : Ex F G) {kvs : List (Int × D)} {kv : List (Key × V)} (h : KvI F kvs kv) : KvI G kvs kv := Paired.mapP h fun _ _ r => ⟨r.1, r.2.mono e⟩
theorem KvP.mono {F G : Hp} (e : Ex F G) {kvs : List ((Int × Int) × D)} {kv : List (List Key × V)} (h : KvP F kvs kv) : KvP G kvs kv := Paired.mapP h fun _ _ r => ⟨r.1, r.2.mono e⟩
/-- the stream's list: its cells, what is left of the cell at hand, the next cell's number -/
def StAt (F H : Hp) (p : Addr) : Prop := ∃ (c : Addr) (cells : List Int) (cur k : Int), H p = some (.lst [.ref c, .int cur, .int k]) ∧ F c = some (.lst (cells.map V.int)) ∧ 0 ≤ cur ∧ 0 ≤ k
def CellOk (F H : Hp) (v : V) : Cell → Prop
  | .imm d => Is F d v
  | .ol p ds => v = .ref p ∧ F p = none ∧ ∃ vs, H p = some (.lst vs) ∧ IsL F ds vs
  | .dk p kvs => v = .ref p ∧ F p = none ∧ ∃ kv, H p = some (.dK kv) ∧ KvI F kvs kv
  | .dt p kvs => v = .ref p ∧ F p = none ∧ ∃ kv, H p = some (.dT kv) ∧ KvP F kvs kv
  | .dl p kvs => v = .ref p ∧ ∃ od kv, F p = some (.frz od (.dT kv)) ∧ KvP F kvs kv
  | .st p => v = .ref p ∧ F p = none ∧ StAt F H p
def HO.isT : HO → Bool
  | .tup _ => true
  | _ => false
theorem CellOk.own_none {F H : Hp} {v : V} {c : Cell} {p : Addr} (h : CellOk F H v c) (e : c.own = some p) : F p = none ∧ v = .ref p ∧ ∃ o, H p = some o ∧ HO.isT o = false := by
  cases c with
  | imm d => cases e
  | ol q ds => cases e; obtain ⟨h1, h2, vs, h3, _⟩ := h; exact ⟨h2, h1, _, h3, rfl⟩
  | dk q kvs => cases e; obtain ⟨h1, h2, vs, h3, _⟩ := h; exact ⟨h2, h1, _, h3, rfl⟩
  | dt q kvs => cases e; obtain ⟨h1, h2, vs, h3, _⟩ := h; exact ⟨h2, h1, _, h3, rfl⟩
  | dl q kvs => cases e
  | st q => cases e; obtain ⟨h1, h2, c, cells, cur, k, h3, _⟩ := h; exact ⟨h2, h1, _, h3, rfl⟩
/-- F grows, the cell's own object stays -/
theorem CellOk.mono {F H F' H' : Hp} {v : V} {c : Cell} (h : CellOk F H v c) (e : Ex F F') (ho : ∀ p, c.own = some p → H' p = H p ∧ F' p = none) : CellOk F' H' v c := by
  cases c with
  | imm d => exact Is.mono e h
  | ol q ds =>
    obtain ⟨h1, h2, vs, h3, h4⟩ := h
    obtain ⟨a, b⟩ := ho q rfl
    exact ⟨h1, b, vs, a.trans h3, h4.mono e⟩
  | dk q kvs =>
    obtain ⟨h1, h2, vs, h3, h4⟩ := h
    obtain ⟨a, b⟩ := ho q rfl
    exact ⟨h1, b, vs, a.trans h3, h4.mono e⟩
  | dt q kvs =>
    obtain ⟨h1, h2, vs, h3, h4⟩ := h
    obtain ⟨a, b⟩ := ho q rfl
    exact ⟨h1, b, vs, a.trans h3, h4.mono e⟩
  | dl q kvs =>
    obtain ⟨h1, od, vs, h3, h4⟩ := h
    exact ⟨h1, od, vs, e _ _ h3, h4.mono e⟩
  | st q =>
    obtain ⟨h1, h2, c, cells, cur, k, h3, h4, h5⟩ := h
    obtain ⟨a, b⟩ := ho q rfl
    exact ⟨h1, b, c, cells, cur, k, a.trans h3, e _ _ h4, h5⟩

/-! ### what the slots hold -/
def Own (ρ : Rho) (p : Addr) : Prop := ∃ (i : Nat) (c : Cell), ρ[i]? = some (some c) ∧ c.own = some p
structure Env (F H : Hp) (σ : St) (ρ : Rho) : Prop where
  len : σ.length = ρ.length
  ex : Ex F H
  at_ : ∀ (i : Nat) (c : Cell), ρ[i]? = some (some c) → ∃ v, σ[i]? = some (some v) ∧ CellOk F H v c
  nd : ∀ (i j : Nat) (ci cj : Cell) (p : Addr), ρ[i]? = some (some ci) → ρ[j]? = some (some cj) → ci.own = some p → cj.own = some p → i = j
theorem Env.own_none {F H : Hp} {σ : St} {ρ : Rho} {p : Addr} (E : Env F H σ ρ) (h : Own ρ p) : F p = none ∧ ∃ o, H p = some o ∧ HO.isT o = false := by
  obtain ⟨i, c, h1, h2⟩ := h
  obtain ⟨v, _, hc⟩ := E.at_ i c h1
  obtain ⟨a, _, b⟩ := hc.own_none h2
  exact ⟨a, b⟩
theorem Env.own_some {F H : Hp} {σ : St} {ρ : Rho} {p : Addr} (E : Env F H σ ρ) (h : Own ρ p) (hn : H p = none) : False := by
  obtain ⟨_, o, e, _⟩ := E.own_none h
  rw [hn] at e; cases e

/-- from (F, H) to (F', H'): all but what stands at m is kept, what is new in F' is new -/
structure Step (m : Addr → Prop) (F H F' H' : Hp) : Prop where
  fx : Ex F F'
  keep : ∀ a o, H a = some o → ¬ m a → H' a = some o ∧ (HO.isT o = false → F' a = F a)
theorem Step.refl {m : Addr → Prop} {F H : Hp} : Step m F H F H := ⟨Ex.refl _, fun _ _ h _ => ⟨h, fun _ => rfl⟩⟩
theorem Step.mono {m m' : Addr → Prop} {F H F' H' : Hp} (s : Step m F H F' H') (h : ∀ a, m a → m' a) : Step m' F H F' H' := ⟨s.fx, fun a o e n => s.keep a o e fun z => n (h a z)⟩
structure Tr (ρ : Rho) (F H : Hp) (ρ' : Rho) (F' H' : Hp) : Prop where
  st : Step (Own ρ) F H F' H'
  sub : ∀ a, Own ρ' a → Own ρ a ∨ H a = none
theorem Tr.refl {ρ : Rho} {F H : Hp} : Tr ρ F H ρ F H := ⟨Step.refl, fun _ h => .inl h⟩
theorem Tr.none_back {ρ ρ' : Rho} {F H F' H' : Hp} (t : Tr ρ F H ρ' F' H') {a : Addr} (h : H' a = none) : Own ρ a ∨ H a = none := by
  cases q : H a with
  | none => exact .inr rfl
  | some o =>
    refine .inl (Classical.byContradiction fun n => ?_)
    have := (t.st.keep a o q n).1
    rw [h] at this; cases this
theorem Tr.trans {ρ₁ ρ₂ ρ₃ : Rho} {F₁ H₁ F₂ H₂ F₃ H₃ : Hp} (a : Tr ρ₁ F₁ H₁ ρ₂ F₂ H₂) (b : Tr ρ₂ F₂ H₂ ρ₃ F₃ H₃) : Tr ρ₁ F₁ H₁ ρ₃ F₃ H₃ where
  st := ⟨a.st.fx.trans b.st.fx, fun x o e n => by
    obtain ⟨e1, f1⟩ := a.st.keep x o e n
    have n2 : ¬ Own ρ₂ x := fun z => (a.sub x z).elim n fun q => by rw [e] at q; cases q
    obtain ⟨e2, f2⟩ := b.st.keep x o e1 n2
    exact ⟨e2, fun q => (f2 q).trans (f1 q)⟩⟩
  sub := fun x h => by
    rcases b.sub x h with h | h
    · exact a.sub x h
    · exact a.none_back h
/-- nothing tracked is changed -/
def Gr (F H F' H' : Hp) : Prop := Step (fun _ => False) F H F' H' ∧ Ex F' H'
theorem Gr.refl {F H : Hp} (e : Ex F H) : Gr F H F H := ⟨Step.refl, e⟩
theorem Gr.trans {F₁ H₁ F₂ H₂ F₃ H₃ : Hp} (a : Gr F₁ H₁ F₂ H₂) (b : Gr F₂ H₂ F₃ H₃) : Gr F₁ H₁ F₃ H₃ :=
  ⟨⟨a.1.fx.trans b.1.fx, fun x o e n => by
    obtain ⟨e1, f1⟩ := a.1.keep x o e n
    obtain ⟨e2, f2⟩ := b.1.keep x o e1 n
    exact ⟨e2, fun q => (f2 q).trans (f1 q)⟩⟩, b.2⟩
theorem Gr.new {F H : Hp} (e : Ex F H) {p : Addr} {o : HO} (h : H p = none) : Gr F H (upd F p o) (upd H p o) :=
  ⟨⟨Ex.new (e.back h), fun a u ha _ => by
    have n := ne_of_none ha h
    exact ⟨by rw [upd_ne n]; exact ha, fun _ => upd_ne n⟩⟩, e.both⟩
theorem Gr.hx {F H F' H' : Hp} (g : Gr F H F' H') : Ex H H' := fun a o e => (g.1.keep a o e fun z => z).1
theorem Gr.fresh {F H F' H' : Hp} (g : Gr F H F' H') {p : Addr} (h : H' p = none) : H p = none := g.hx.back h
theorem Gr.tr {ρ : Rho} {F H F' H' : Hp} (g : Gr F H F' H') : Tr ρ F H ρ F' H' := ⟨g.1.mono fun _ z => z.elim, fun _ h => .inl h⟩
theorem Env.step {F H F' H' : Hp} {σ : St} {ρ : Rho} (E : Env F H σ ρ) (g : Gr F H F' H') : Env F' H' σ ρ := ⟨E.len, g.2, fun i c h => by
    obtain ⟨v, h1, h2⟩ := E.at_ i c h
    refine ⟨v, h1, h2.mono g.1.fx fun p hp => ?_⟩
    obtain ⟨a, _, o, q, b⟩ := h2.own_none hp
    obtain ⟨e1, e2⟩ := g.1.keep p o q fun z => z
    exact ⟨e1.trans q.symm, (e2 b).trans a⟩, E.nd⟩
/-- a tuple that H holds may be known as data -/
theorem Env.know {F H : Hp} {σ : St} {ρ : Rho} {p : Addr} {vs : List V} (E : Env F H σ ρ) (h : H p = some (.tup vs)) : ∃ F2, F2 p = some (.tup vs) ∧ Env F2 H σ ρ ∧ Step (Own ρ) F H F2 H := by
  cases hf : F p with
  | some o =>
    have := E.ex p o hf
    rw [h] at this; cases this
    exact ⟨F, hf, E, Step.refl⟩
  | none =>
    have eF : Ex F (upd F p (.tup vs)) := Ex.new hf
    refine ⟨upd F p (.tup vs), upd_same, ⟨E.len, fun a u ha => ?_, fun i c hi => ?_, E.nd⟩, eF, fun a o ha _ => ⟨ha, fun q => ?_⟩⟩
    · by_cases e : a = p
      · subst e; rw [upd_same] at ha; rw [h]; exact ha
      · rw [upd_ne e] at ha; exact E.ex a u ha
    · obtain ⟨v, h1, h2⟩ := E.at_ i c hi
      refine ⟨v, h1, h2.mono eF fun q hq => ⟨rfl, ?_⟩⟩
      obtain ⟨a, _, o, g1, g2⟩ := h2.own_none hq
      have ne : q ≠ p := fun z => by
        subst z
        rw [h] at g1; cases g1; cases g2
      rw [upd_ne ne]
      exact a
    · have ne : a ≠ p := fun z => by
        subst z
        rw [h] at ha; cases ha; cases q
      exact upd_ne ne

/-! ### weakest preconditions -/
/-- an expression that gives a cell -/
def WC (te : TE) (ρ : Rho) (Q : Cell → Rho → Prop) : Prop := ∀ (σ : St) (F H : Hp), Env F H σ ρ → ∀ Qc : VK,
  (∀ c ρ' v F' H', Q c ρ' → Env F' H' σ ρ' → Tr ρ F H ρ' F' H' → CellOk F' H' v c → (∀ p, c.own = some p → ¬ Own ρ' p ∧ (Own ρ p ∨ H p = none)) → Qc v H') → te σ H Qc
/-- .. data -/
def WE (te : TE) (ρ : Rho) (Q : D → Rho → Prop) : Prop := ∀ (σ : St) (F H : Hp), Env F H σ ρ → ∀ Qc : VK,
  (∀ d ρ' v F' H', Q d ρ' → Env F' H' σ ρ' → Tr ρ F H ρ' F' H' → Is F' d v → Qc v H') → te σ H Qc
def WT (tt : TT) (ρ : Rho) (Q : Bool → Rho → Prop) : Prop := ∀ (σ : St) (F H : Hp), Env F H σ ρ → ∀ Qc : Bool → Hp → Prop,
  (∀ b ρ' F' H', Q b ρ' → Env F' H' σ ρ' → Tr ρ F H ρ' F' H' → Qc b H') → tt σ H Qc
def WA (ta : TA) (ρ : Rho) (Q : List D → Rho → Prop) : Prop := ∀ (σ : St) (F H : Hp), Env F H σ ρ → ∀ Qc : List V → Hp → Prop,
  (∀ ds ρ' vs F' H', Q ds ρ' → Env F' H' σ ρ' → Tr ρ F H ρ' F' H' → IsL F' ds vs → Qc vs H') → ta σ H Qc
/-- a statement, a block: N behind it, R where it returns -/
def WS (ts : TS) (ρ : Rho) (N : Rho → Prop) (R : Cell → Rho → Prop) : Prop := ∀ (σ : St) (F H : Hp), Env F H σ ρ → ∀ Dc : Ends,
  (∀ ρ' σ' F' H', N ρ' → Env F' H' σ' ρ' → Tr ρ F H ρ' F' H' → Dc.nx σ' H') →
  (∀ c ρ' σ' v F' H', R c ρ' → Env F' H' σ' ρ' → Tr ρ F H ρ' F' H' → CellOk F' H' v c → (∀ p, c.own = some p → ¬ Own ρ' p ∧ (Own ρ p ∨ H p = none)) → Dc.rt v H') → ts Dc σ H

section
variable {te ta tb tc : TE} {tt t u : TT} {ρ : Rho} {Q : D → Rho → Prop} {N : Rho → Prop} {R : Cell → Rho → Prop} {ts t1 t2 : TS}
theorem WE.imp {Q' : D → Rho → Prop} (h : WE te ρ Q) (k : ∀ d ρ', Q d ρ' → Q' d ρ') : WE te ρ Q' := fun σ F H E Qc q => h σ F H E Qc fun d ρ' v F' H' hq => q d ρ' v F' H' (k d ρ' hq)
theorem WS.imp {N' : Rho → Prop} {R' : Cell → Rho → Prop} (h : WS ts ρ N R) (k : ∀ ρ', N ρ' → N' ρ') (k2 : ∀ c ρ', R c ρ' → R' c ρ') : WS ts ρ N' R' := fun σ F H E Dc q1 q2 => h σ F H E Dc (fun ρ' σ' F' H' hq => q1 ρ' σ' F' H' (k ρ' hq)) fun c ρ' σ' v F' H' hq => q2 c ρ' σ' v F' H' (k2 c ρ' hq)
theorem we_wc {Q : Cell → Rho → Prop} (h : WE te ρ fun d ρ' => Q (.imm d) ρ') : WC te ρ Q := fun σ F H E Qc q => h σ F H E Qc fun d ρ' v F' H' hq E' t' i => q (.imm d) ρ' v F' H' hq E' t' i fun p hp => by cases hp

/-! names, constants -/
theorem we_var {i : Nat} {d : D} (h : ρ[i]? = some (some (.imm d))) (q : Q d ρ) : WE (tVar i) ρ Q := fun σ F H E Qc k => by
  obtain ⟨v, h1, h2⟩ := E.at_ i _ h
  exact ⟨v, h1, k d ρ v F H q E Tr.refl h2⟩
theorem we_non (q : Q .non ρ) : WE (tC .non) ρ Q := fun σ F H E Qc k => k .non ρ .non F H q E Tr.refl rfl
theorem we_bl {b : Bool} (q : Q (.bl b) ρ) : WE (tC (.bl b)) ρ Q := fun σ F H E Qc k => k (.bl b) ρ (.bl b) F H q E Tr.refl rfl
theorem we_int {i : Int} (q : Q (.int i) ρ) : WE (tC (.int i)) ρ Q := fun σ F H E Qc k => k (.int i) ρ (.int i) F H q E Tr.refl rfl
theorem we_str {x : Str} (q : Q (.str x) ρ) : WE (tC (.str x)) ρ Q := fun σ F H E Qc k => k (.str x) ρ (.str x) F H q E Tr.refl rfl

/-! operations by values: they change nothing, may make something new -/
def RD (r : R2) (d1 d2 : D) (P : D → Prop) : Prop := ∀ (F H : Hp) (x y : V), Ex F H → Is F d1 x → Is F d2 y → ∀ Qc : VK, (∀ d v F' H', P d → Gr F H F' H' → Is F' d v → Qc v H') → r x y H Qc
def RU1 (r : V → Hp → VK → Prop) (d1 : D) (P : D → Prop) : Prop := ∀ (F H : Hp) (x : V), Ex F H → Is F d1 x → ∀ Qc : VK, (∀ d v F' H', P d → Gr F H F' H' → Is F' d v → Qc v H') → r x H Qc
def RCa (r : List V → Hp → VK → Prop) (ds : List D) (P : D → Prop) : Prop := ∀ (F H : Hp) (vs : List V), Ex F H → IsL F ds vs → ∀ Qc : VK, (∀ d v F' H', P d → Gr F H F' H' → Is F' d v → Qc v H') → r vs H Qc
theorem we_op {r : R2} (h : WE ta ρ fun d1 ρ1 => WE tb ρ1 fun d2 ρ2 => RD r d1 d2 fun d => Q d ρ2) : WE (tOp r ta tb) ρ Q := fun σ F H E Qc k => by
  refine h σ F H E _ fun d1 ρ1 x F1 H1 h1 E1 T1 i1 => ?_
  refine h1 σ F1 H1 E1 _ fun d2 ρ2 y F2 H2 h2 E2 T2 i2 => ?_
  exact h2 F2 H2 x y E2.ex (i1.mono T2.st.fx) i2 Qc fun d v F' H' p g i => k d ρ2 v F' H' p (E2.step g) ((T1.trans T2).trans g.tr) i
theorem we_un {r : V → Hp → VK → Prop} (h : WE ta ρ fun d1 ρ1 => RU1 r d1 fun d => Q d ρ1) : WE (tUn r ta) ρ Q := fun σ F H E Qc k => by
  refine h σ F H E _ fun d1 ρ1 x F1 H1 h1 E1 T1 i1 => ?_
  exact h1 F1 H1 x E1.ex i1 Qc fun d v F' H' p g i => k d ρ1 v F' H' p (E1.step g) (T1.trans g.tr) i
theorem wa_nil {Q : List D → Rho → Prop} (q : Q [] ρ) : WA tNil ρ Q := fun σ F H E Qc k => k [] ρ [] F H q E Tr.refl rfl
theorem wa_cons {tr : TA} {Q : List D → Rho → Prop} (h : WE ta ρ fun d ρ1 => WA tr ρ1 fun ds ρ2 => Q (d :: ds) ρ2) : WA (tCons ta tr) ρ Q := fun σ F H E Qc k => by
  refine h σ F H E _ fun d1 ρ1 x F1 H1 h1 E1 T1 i1 => ?_
  exact h1 σ F1 H1 E1 _ fun ds ρ2 ys F2 H2 h2 E2 T2 i2 => k (d1 :: ds) ρ2 (x :: ys) F2 H2 h2 E2 (T1.trans T2) ⟨x, ys, rfl, i1.mono T2.st.fx, i2⟩
theorem we_cb {r : List V → Hp → VK → Prop} {ta : TA} (h : WA ta ρ fun ds ρ1 => RCa r ds fun d => Q d ρ1) : WE (tCB r ta) ρ Q := fun σ F H E Qc k => by
  refine h σ F H E _ fun ds ρ1 xs F1 H1 h1 E1 T1 i1 => ?_
  exact h1 F1 H1 xs E1.ex i1 Qc fun d v F' H' p g i => k d ρ1 v F' H' p (E1.step g) (T1.trans g.tr) i
theorem we_tup {ta : TA} (h : WA ta ρ fun ds ρ1 => ds.length ≤ 100000 ∧ Q (.tup ds) ρ1) : WE (tTup ta) ρ Q := fun σ F H E Qc k => by
  refine h σ F H E _ fun ds ρ1 xs F1 H1 h1 E1 T1 i1 => ?_
  refine ⟨by rw [i1.length]; exact Nat.le_trans h1.1 (by decide), fun p hp => ?_⟩
  have g := Gr.new E1.ex hp (o := .tup xs)
  exact k _ ρ1 _ _ _ h1.2 (E1.step g) (T1.trans g.tr) ⟨p, xs, rfl, upd_same, i1.mono g.1.fx⟩
theorem we_lst {ta : TA} (h : WA ta ρ fun ds ρ1 => ds.length ≤ 100000 ∧ Q (.lst ds) ρ1) : WE (tLst ta) ρ Q := fun σ F H E Qc k => by
  refine h σ F H E _ fun ds ρ1 xs F1 H1 h1 E1 T1 i1 => ?_
  refine ⟨by rw [i1.length]; exact Nat.le_trans h1.1 (by decide), fun p hp => ?_⟩
  have g := Gr.new E1.ex hp (o := .lst xs)
  exact k _ ρ1 _ _ _ h1.2 (E1.step g) (T1.trans g.tr) ⟨p, xs, rfl, upd_same, i1.mono g.1.fx⟩

/-! tests -/
theorem wt_test (h : WE te ρ fun d ρ1 => ∃ b, d = .bl b ∧ Qb b ρ1) : WT (tTest te) ρ Qb := fun σ F H E Qc k => by
  refine h σ F H E _ fun d ρ1 x F1 H1 ⟨b, e, hq⟩ E1 T1 i1 => ?_
  subst e
  exact ⟨b, i1, k b ρ1 F1 H1 hq E1 T1⟩
theorem wt_B (h : WE te ρ fun d ρ1 => ∃ b, d = .bl b ∧ Qb b ρ1) : WT (tB te) ρ Qb := fun σ F H E Qc k => by
  refine h σ F H E _ fun d ρ1 x F1 H1 ⟨b, e, hq⟩ E1 T1 i1 => ?_
  subst e
  exact ⟨b, i1, k b ρ1 F1 H1 hq E1 T1⟩
def D.tru : D → Option Bool
  | .non => some false
  | .bl b => some b
  | .int i => some (i != 0)
  | .str _ => none
  | .tup ds => some (!ds.isEmpty)
  | .lst ds => some (!ds.isEmpty)
theorem IsL.isEmpty {F : Hp} {ds : List D} {vs : List V} (h : IsL F ds vs) : vs.isEmpty = ds.isEmpty := by
  have := h.length
  cases vs <;> cases ds <;> simp at this <;> rfl
theorem wt_tru {K : PySem.W.Frag} (h : WE te ρ fun d ρ1 => ∃ b, d.tru = some b ∧ Qb b ρ1) : WT (fun σ H Q => te σ H fun x H' => ∃ k, TruV K x H' k ∧ Q k H') ρ Qb := fun σ F H E Qc k => by
  refine h σ F H E _ fun d ρ1 x F1 H1 ⟨b, e, hq⟩ E1 T1 i1 => ?_
  refine ⟨b, ?_, k b ρ1 F1 H1 hq E1 T1⟩
  cases d with
  | non => cases i1; cases e; rfl
  | bl c => cases i1; cases e; rfl
  | int c => cases i1; cases e; rfl
  | str c => cases e
  | tup ds =>
    obtain ⟨a, vs, rfl, h2, h3⟩ := i1
    cases e
    exact .inr (.inl ⟨vs, SqT.of (E1.ex _ _ h2), by rw [h3.isEmpty]⟩)
  | lst ds =>
    obtain ⟨a, vs, rfl, h2, h3⟩ := i1
    cases e
    exact .inl ⟨vs, SqL.of (E1.ex _ _ h2), by rw [h3.isEmpty]⟩
theorem wt_not (h : WT t ρ fun b ρ1 => Qb (!b) ρ1) : WT (tNot t) ρ Qb := fun σ F H E Qc k => h σ F H E _ fun b ρ1 F1 H1 hq E1 T1 => k (!b) ρ1 F1 H1 hq E1 T1
theorem wt_and (h : WT t ρ fun b ρ1 => (b = true → WT u ρ1 Qb) ∧ (b = false → Qb false ρ1)) : WT (tAnd t u) ρ Qb := fun σ F H E Qc k => by
  refine h σ F H E _ fun b ρ1 F1 H1 hq E1 T1 => ?_
  cases b with
  | true => exact hq.1 rfl σ F1 H1 E1 Qc fun b ρ2 F2 H2 q2 E2 T2 => k b ρ2 F2 H2 q2 E2 (T1.trans T2)
  | false => exact k false ρ1 F1 H1 (hq.2 rfl) E1 T1
theorem wt_or (h : WT t ρ fun b ρ1 => (b = true → Qb true ρ1) ∧ (b = false → WT u ρ1 Qb)) : WT (tOr t u) ρ Qb := fun σ F H E Qc k => by
  refine h σ F H E _ fun b ρ1 F1 H1 hq E1 T1 => ?_
  cases b with
  | true => exact k true ρ1 F1 H1 (hq.1 rfl) E1 T1
  | false => exact hq.2 rfl σ F1 H1 E1 Qc fun b ρ2 F2 H2 q2 E2 T2 => k b ρ2 F2 H2 q2 E2 (T1.trans T2)
theorem wt_yes (q : Qb true ρ) : WT tYes ρ Qb := fun σ F H E Qc k => k true ρ F H q E Tr.refl
theorem we_andV (h : WE ta ρ fun d ρ1 => ∃ b, d = .bl b ∧ (b = true → WE tb ρ1 Q) ∧ (b = false → Q (.bl false) ρ1)) : WE (tAndV ta tb) ρ Q := fun σ F H E Qc k => by
  refine h σ F H E _ fun d ρ1 x F1 H1 ⟨b, e, hq⟩ E1 T1 i1 => ?_
  subst e
  refine ⟨b, i1, ?_⟩
  cases b with
  | true => exact hq.1 rfl σ F1 H1 E1 Qc fun d ρ2 v F2 H2 q2 E2 T2 => k d ρ2 v F2 H2 q2 E2 (T1.trans T2)
  | false => exact k _ ρ1 _ F1 H1 (hq.2 rfl) E1 T1 rfl
theorem we_orV (h : WE ta ρ fun d ρ1 => ∃ b, d = .bl b ∧ (b = true → Q (.bl true) ρ1) ∧ (b = false → WE tb ρ1 Q)) : WE (tOrV ta tb) ρ Q := fun σ F H E Qc k => by
  refine h σ F H E _ fun d ρ1 x F1 H1 ⟨b, e, hq⟩ E1 T1 i1 => ?_
  subst e
  refine ⟨b, i1, ?_⟩
  cases b with
  | true => exact k _ ρ1 _ F1 H1 (hq.1 rfl) E1 T1 rfl
  | false => exact hq.2 rfl σ F1 H1 E1 Qc fun d ρ2 v F2 H2 q2 E2 T2 => k d ρ2 v F2 H2 q2 E2 (T1.trans T2)
theorem we_notV (h : WE ta ρ fun d ρ1 => ∃ b, d = .bl b ∧ Q (.bl (!b)) ρ1) : WE (tNotV ta) ρ Q := fun σ F H E Qc k => by
  refine h σ F H E _ fun d ρ1 x F1 H1 ⟨b, e, hq⟩ E1 T1 i1 => ?_
  subst e
  exact ⟨b, i1, k _ ρ1 _ F1 H1 hq E1 T1 rfl⟩
theorem we_if (h : WT t ρ fun b ρ1 => (b = true → WE ta ρ1 Q) ∧ (b = false → WE tb ρ1 Q)) : WE (tIf t ta tb) ρ Q := fun σ F H E Qc k => by
  refine h σ F H E _ fun b ρ1 F1 H1 hq E1 T1 => ?_
  cases b with
  | true => exact hq.1 rfl σ F1 H1 E1 Qc fun d ρ2 v F2 H2 q2 E2 T2 => k d ρ2 v F2 H2 q2 E2 (T1.trans T2)
  | false => exact hq.2 rfl σ F1 H1 E1 Qc fun d ρ2 v F2 H2 q2 E2 T2 => k d ρ2 v F2 H2 q2 E2 (T1.trans T2)
theorem we_chain {r r' : R2} (h : WE ta ρ fun d1 ρ1 => WE tb ρ1 fun d2 ρ2 => RD r d1 d2 fun d => ∃ b, d = .bl b ∧ (b = true → WE tc ρ2 fun d3 ρ3 => RD r' d2 d3 fun d => Q d ρ3) ∧ (b = false → Q (.bl false) ρ2)) : WE (tChain r r' ta tb tc) ρ Q := fun σ F H E Qc k => by
  refine h σ F H E _ fun d1 ρ1 x F1 H1 h1 E1 T1 i1 => ?_
  refine h1 σ F1 H1 E1 _ fun d2 ρ2 y F2 H2 h2 E2 T2 i2 => ?_
  refine h2 F2 H2 x y E2.ex (i1.mono T2.st.fx) i2 _ fun d v F3 H3 ⟨b, e, hq⟩ g i => ?_
  subst e
  refine ⟨b, i, ?_⟩
  cases b with
  | false => exact k _ ρ2 _ F3 H3 (hq.2 rfl) (E2.step g) ((T1.trans T2).trans g.tr) rfl
  | true =>
    refine hq.1 rfl σ F3 H3 (E2.step g) _ fun d3 ρ3 z F4 H4 h4 E4 T4 i4 => ?_
    exact h4 F4 H4 y z E4.ex ((i2.mono g.1.fx).mono T4.st.fx) i4 Qc fun d v F' H' p g' i => k d ρ3 v F' H' p (E4.step g') ((((T1.trans T2).trans g.tr).trans T4).trans g'.tr) i

/-! statements -/
theorem ws_seq (h : WS t1 ρ (fun ρ1 => WS t2 ρ1 N R) R) : WS (tSeq t1 t2) ρ N R := fun σ F H E Dc q1 q2 => by
  refine h σ F H E { Dc with nx := t2 Dc } (fun ρ1 σ1 F1 H1 h1 E1 T1 => ?_) q2
  refine h1 σ1 F1 H1 E1 Dc (fun ρ2 σ2 F2 H2 h2 E2 T2 => q1 ρ2 σ2 F2 H2 h2 E2 (T1.trans T2)) fun c ρ2 σ2 v F2 H2 h2 E2 T2 hc ho => q2 c ρ2 σ2 v F2 H2 h2 E2 (T1.trans T2) hc fun p hp => ⟨(ho p hp).1, ?_⟩
  rcases (ho p hp).2 with z | z
  · exact T1.sub p z
  · exact T1.none_back z
theorem ws_next (q : N ρ) : WS tNext ρ N R := fun σ F H E Dc q1 q2 => q1 ρ σ F H q E Tr.refl
theorem ws_retC (h : WC te ρ R) : WS (tRet te) ρ N R := fun σ F H E Dc q1 q2 => h σ F H E _ fun c ρ' v F' H' hq E' T' hc ho => q2 c ρ' σ v F' H' hq E' T' hc ho
theorem ws_ret (h : WE te ρ fun d ρ' => R (.imm d) ρ') : WS (tRet te) ρ N R := ws_retC (we_wc h)
theorem ws_if (h : WT t ρ fun b ρ1 => (b = true → WS t1 ρ1 N R) ∧ (b = false → WS t2 ρ1 N R)) : WS (tIfS t t1 t2) ρ N R := fun σ F H E Dc q1 q2 => by
  refine h σ F H E _ fun b ρ1 F1 H1 hq E1 T1 => ?_
  have fin : ∀ {ts : TS}, WS ts ρ1 N R → ts Dc σ H1 := fun w => w σ F1 H1 E1 Dc (fun ρ2 σ2 F2 H2 h2 E2 T2 => q1 ρ2 σ2 F2 H2 h2 E2 (T1.trans T2)) fun c ρ2 σ2 v F2 H2 h2 E2 T2 hc ho => q2 c ρ2 σ2 v F2 H2 h2 E2 (T1.trans T2) hc fun p hp => ⟨(ho p hp).1, by
    rcases (ho p hp).2 with z | z
    · exact T1.sub p z
    · exact T1.none_back z⟩
  cases b with
  | true => exact fin (hq.1 rfl)
  | false => exact fin (hq.2 rfl)
theorem ws_drop (h : WE te ρ fun _ ρ1 => N ρ1) : WS (tDrop te) ρ N R := fun σ F H E Dc q1 q2 => h σ F H E _ fun d ρ1 v F1 H1 hq E1 T1 _ => q1 ρ1 σ F1 H1 hq E1 T1

/-! storing a cell at a slot -/
theorem Own.set {ρ : Rho} {i : Nat} {x : Option Cell} {a : Addr} (h : Own (ρ.set i x) a) : Own ρ a ∨ ∃ c, x = some c ∧ c.own = some a := by
  obtain ⟨j, c, h1, h2⟩ := h
  by_cases e : i = j
  · subst e
    by_cases hl : i < ρ.length
    · rw [List.getElem?_set_self hl] at h1
      exact .inr ⟨c, Option.some.inj h1, h2⟩
    · rw [List.getElem?_eq_none (by simpa using hl)] at h1; cases h1
  · rw [List.getElem?_set_ne e] at h1
    exact .inl ⟨j, c, h1, h2⟩
theorem Env.set {F H : Hp} {σ : St} {ρ : Rho} (E : Env F H σ ρ) (i : Nat) {c : Cell} {v : V} (hc : CellOk F H v c) (ho : ∀ p, c.own = some p → ¬ Own ρ p) : Env F H (σ.set i (some v)) (ρ.set i (some c)) := by
  refine ⟨by rw [List.length_set, List.length_set]; exact E.len, E.ex, fun j c' h => ?_, fun j k cj ck p h1 h2 o1 o2 => ?_⟩
  · by_cases e : i = j
    · subst e
      by_cases hl : i < ρ.length
      · rw [List.getElem?_set_self hl] at h
        have e : c = c' := Option.some.inj (Option.some.inj h)
        subst e
        exact ⟨v, by rw [List.getElem?_set_self (by rw [E.len]; exact hl)], hc⟩
      · rw [List.getElem?_eq_none (by simpa using hl)] at h; cases h
    · rw [List.getElem?_set_ne e] at h ⊢
      exact E.at_ j c' h
  · have key : ∀ {j : Nat} {cj : Cell}, (ρ.set i (some c))[j]? = some (some cj) → (j = i ∧ cj = c) ∨ (j ≠ i ∧ ρ[j]? = some (some cj)) := fun {j cj} h => by
      by_cases e : i = j
      · subst e
        by_cases hl : i < ρ.length
        · rw [List.getElem?_set_self hl] at h
          exact .inl ⟨rfl, (Option.some.inj (Option.some.inj h)).symm⟩
        · rw [List.getElem?_eq_none (by simpa using hl)] at h; cases h
      · rw [List.getElem?_set_ne e] at h
        exact .inr ⟨fun z => e z.symm, h⟩
    rcases key h1 with ⟨rfl, rfl⟩ | ⟨n1, g1⟩
    · rcases key h2 with ⟨rfl, _⟩ | ⟨n2, g2⟩
      · rfl
      · exact absurd ⟨k, ck, g2, o2⟩ (ho p o1)
    · rcases key h2 with ⟨rfl, rfl⟩ | ⟨n2, g2⟩
      · exact absurd ⟨j, cj, g1, o1⟩ (ho p o2)
      · exact E.nd j k cj ck p g1 g2 o1 o2
/-- a slot is forgotten -/
theorem Env.forget {F H : Hp} {σ : St} {ρ : Rho} (E : Env F H σ ρ) (i : Nat) : Env F H σ (ρ.set i none) := by
  have key : ∀ {j : Nat} {cj : Cell}, (ρ.set i none)[j]? = some (some cj) → ρ[j]? = some (some cj) := fun {j cj} h => by
    by_cases e : i = j
    · subst e
      by_cases hl : i < ρ.length
      · rw [List.getElem?_set_self hl] at h; cases h
      · rw [List.getElem?_eq_none (by simpa using hl)] at h; cases h
    · rw [List.getElem?_set_ne e] at h; exact h
  exact ⟨by rw [List.length_set]; exact E.len, E.ex, fun j c h => E.at_ j c (key h), fun j k cj ck p h1 h2 => E.nd j k cj ck p (key h1) (key h2)⟩
theorem ws_asgC {i : Nat} (h : WC te ρ fun c ρ1 => N (ρ1.set i (some c))) : WS (tAsg te (gName i)) ρ N R := fun σ F H E Dc q1 q2 => by
  refine h σ F H E _ fun c ρ1 v F1 H1 hq E1 T1 hc ho => ?_
  refine q1 _ _ F1 H1 hq (E1.set i hc fun p hp => (ho p hp).1) ⟨T1.st, fun a ha => ?_⟩
  rcases ha.set with z | ⟨c', e, z⟩
  · exact T1.sub a z
  · cases e
    exact (ho a z).2
theorem ws_asg {i : Nat} (h : WE te ρ fun d ρ1 => N (ρ1.set i (some (.imm d)))) : WS (tAsg te (gName i)) ρ N R := ws_asgC (we_wc h)
end
end K47

set_option Elab.async false
set_option linter.all false
set_option maxRecDepth 100000
set_option maxHeartbeats 4000000
/-! The logic's loops, comprehensions, calls, owned lists and dicts. -/
namespace K47
open PySem L2

section
variable {te ta tb tc tl : TE} {tt t u : TT} {ρ : Rho} {Q : D → Rho → Prop} {N : Rho → Prop} {R : Cell → Rho → Prop} {ts t1 t2 : TS} {K : PySem.W.Frag}

/-! ### what is walked -/
def IsW (F H : Hp) (d : D) (x : V) : Prop := Is F d x ∨ ∃ q vs ds, d = .tup ds ∧ x = .ref q ∧ H q = some (.tup vs) ∧ IsL F ds vs
theorem IsW.know {F H : Hp} {σ : St} {ρ : Rho} {d : D} {x : V} (h : IsW F H d x) (E : Env F H σ ρ) : ∃ F2, Is F2 d x ∧ Env F2 H σ ρ ∧ Tr ρ F H ρ F2 H := by
  rcases h with h | ⟨q, vs, ds, rfl, rfl, h1, h2⟩
  · exact ⟨F, h, E, Tr.refl⟩
  · obtain ⟨F2, a, b, c⟩ := E.know h1
    exact ⟨F2, ⟨q, vs, rfl, a, h2.mono c.fx⟩, b, c, fun _ z => .inl z⟩
def Walks (J : It) (ds : List D) (F : Hp) : Prop := ∀ F' H', Ex F F' → Ex F' H' → (∀ i, i < ds.length → J.go i H') ∧ J.stop ds.length H' ∧ ∀ i x H'', i < ds.length → J.yld i H' x H'' → H'' = H' ∧ ∃ d, ds[i]? = some d ∧ IsW F' H' d x
def WI (wi : TI) (ρ : Rho) (Q : List D → Rho → Prop) : Prop := ∀ (σ : St) (F H : Hp), Env F H σ ρ → ∀ R : It → Hp → Prop,
  (∀ ds ρ' J F' H', Q ds ρ' → Env F' H' σ ρ' → Tr ρ F H ρ' F' H' → Walks J ds F' → R J H') → wi σ H R
def WG (g : TG) (d : D) (ρ : Rho) (M : Rho → Prop) : Prop := ∀ (σ : St) (F H : Hp) (v : V), Env F H σ ρ → Is F d v → ∀ Qc : St → Hp → Prop, (∀ ρ' σ', M ρ' → Env F H σ' ρ' → (∀ a, Own ρ' a → Own ρ a) → Qc σ' H) → g v σ H Qc
def WGs (g : TGs) (ds : List D) (ρ : Rho) (M : Rho → Prop) : Prop := ∀ (σ : St) (F H : Hp) (vs : List V), Env F H σ ρ → IsL F ds vs → ∀ Qc : St → Hp → Prop, (∀ ρ' σ', M ρ' → Env F H σ' ρ' → (∀ a, Own ρ' a → Own ρ a) → Qc σ' H) → g vs σ H Qc
theorem wg_name {i : Nat} {d : D} {M : Rho → Prop} (q : M (ρ.set i (some (.imm d)))) : WG (gName i) d ρ M := fun σ F H v E hd Qc k => k _ _ q (E.set i (c := .imm d) hd fun p hp => by cases hp) fun a ha => by
  rcases ha.set with z | ⟨c, e, z⟩
  · exact z
  · cases e; cases z
theorem wgs_nil {M : Rho → Prop} (q : M ρ) : WGs gNil [] ρ M := fun σ F H vs E hd Qc k => ⟨hd, k ρ σ q E fun _ z => z⟩
theorem wgs_cons {g : TG} {gs : TGs} {d : D} {ds : List D} {M : Rho → Prop} (h : WG g d ρ fun ρ1 => WGs gs ds ρ1 M) : WGs (gCons g gs) (d :: ds) ρ M := fun σ F H vs E hd Qc k => by
  obtain ⟨v, r, e, h1, h2⟩ := hd
  refine ⟨v, r, e, h σ F H v E h1 _ fun ρ1 σ1 q1 E1 o1 => ?_⟩
  exact q1 σ1 F H r E1 h2 Qc fun ρ2 σ2 q2 E2 o2 => k ρ2 σ2 q2 E2 fun a z => o1 a (o2 a z)
theorem wg_tup {n : Nat} {gs : TGs} {ds : List D} {M : Rho → Prop} (hn : ds.length = n) (h : WGs gs ds ρ M) : WG (gTup K n gs) (.tup ds) ρ M := fun σ F H v E hd Qc k => by
  obtain ⟨a, vs, e, h1, h2⟩ := hd
  exact ⟨a, vs, e, SqT.of (E.ex _ _ h1), by rw [h2.length]; exact hn, h σ F H vs E h2 Qc k⟩
theorem wi_tup {Qi : List D → Rho → Prop} (h : WE tl ρ fun d ρ1 => ∃ ds, d = .tup ds ∧ Qi ds ρ1) : WI (iTup K tl) ρ Qi := fun σ F H E R k => by
  refine h σ F H E _ fun d ρ1 x F1 H1 ⟨ds, e, hq⟩ E1 T1 i1 => ?_
  subst e
  obtain ⟨a, vs, e, h1, h2⟩ := i1
  refine ⟨a, e, ⟨vs, SqT.of (E1.ex _ _ h1)⟩, k ds ρ1 _ F1 H1 hq E1 T1 fun F' H' e1 e2 => ?_⟩
  have hs : SqT K H' a vs := SqT.of (e2 _ _ (e1 _ _ h1))
  refine ⟨fun i hi => ?_, ⟨vs, hs, by rw [h2.length]; exact Nat.le_refl _⟩, fun i y H'' hi hy => ?_⟩
  · have hl : i < vs.length := by rw [h2.length]; exact hi
    exact ⟨vs, vs[i], hs, List.getElem?_eq_getElem hl⟩
  · obtain ⟨d, g1, g2⟩ := h2.get' (hy.2 vs hs)
    exact ⟨hy.1, d, g1, .inl (g2.mono e1)⟩
theorem wi_list {Qi : List D → Rho → Prop} (h : WE tl ρ fun d ρ1 => ∃ ds, d = .lst ds ∧ Qi ds ρ1) : WI (iList K tl) ρ Qi := fun σ F H E R k => by
  refine h σ F H E _ fun d ρ1 x F1 H1 ⟨ds, e, hq⟩ E1 T1 i1 => ?_
  subst e
  obtain ⟨a, vs, e, h1, h2⟩ := i1
  refine ⟨a, e, ⟨vs, SqL.of (E1.ex _ _ h1)⟩, k ds ρ1 _ F1 H1 hq E1 T1 fun F' H' e1 e2 => ?_⟩
  have hs : SqL K H' a vs := SqL.of (e2 _ _ (e1 _ _ h1))
  refine ⟨fun i hi => ?_, ⟨vs, hs, by rw [h2.length]; exact Nat.le_refl _⟩, fun i y H'' hi hy => ?_⟩
  · have hl : i < vs.length := by rw [h2.length]; exact hi
    exact ⟨vs, vs[i], hs, List.getElem?_eq_getElem hl⟩
  · obtain ⟨d, g1, g2⟩ := h2.get' (hy.2 vs hs)
    exact ⟨hy.1, d, g1, .inl (g2.mono e1)⟩
def rgD (n : Nat) : List D := (List.range n).map fun i => D.int (i : Nat)
theorem rgD_length (n : Nat) : (rgD n).length = n := by unfold rgD; rw [List.length_map, List.length_range]
theorem rgD_get {n i : Nat} (h : i < n) : (rgD n)[i]? = some (.int (i : Nat)) := by
  unfold rgD
  rw [List.getElem?_map, List.getElem?_range h]
  rfl
theorem wi_range {ta : TA} {Qi : List D → Rho → Prop} (h : WA ta ρ fun ds ρ1 => ∃ n : Nat, ds = [.int (n : Int)] ∧ n ≤ 100000 ∧ Qi (rgD n) ρ1) : WI (iRng1 ta) ρ Qi := fun σ F H E R k => by
  refine h σ F H E _ fun ds ρ1 xs F1 H1 ⟨n, e, hn, hq⟩ E1 T1 i1 => ?_
  subst e
  obtain ⟨v, r, e, h1, h2⟩ := i1
  have h1 : v = .int (n : Int) := h1
  have h2 : r = [] := h2
  subst h1 h2
  refine ⟨n, e, by omega, by omega, k (rgD n) ρ1 _ F1 H1 hq E1 T1 fun F' H' e1 e2 => ?_⟩
  rw [rgD_length]
  refine ⟨fun i hi => (by show i < ((n : Int)).toNat; omega), (by show ((n : Int)).toNat ≤ n; omega), fun i y H'' hi hy => ⟨hy.1, _, rgD_get hi, .inl ?_⟩⟩
  have := hy.2
  rw [this]
  show V.int (0 + (i : Int)) = V.int (i : Int)
  rw [Int.zero_add]

/-! ### loops -/
theorem ws_for {wi : TI} {g : TG} {tb : TS} (h : WI wi ρ fun ds ρ1 => ∃ I : Nat → Rho → Prop, I 0 ρ1 ∧ (∀ i d ρ', ds[i]? = some d → I i ρ' → WG g d ρ' fun ρ2 => WS tb ρ2 (I (i + 1)) R) ∧ ∀ ρ', I ds.length ρ' → N ρ') : WS (tFor wi g tb) ρ N R := fun σ F H E Dc q1 q2 => by
  refine h σ F H E _ fun ds ρ1 J F1 H1 ⟨I, h0, hs, hd⟩ E1 T1 hw => ?_
  refine ⟨fun i m σ' H' => m = ds.length - i ∧ i ≤ ds.length ∧ ∃ ρ' F', I i ρ' ∧ Env F' H' σ' ρ' ∧ Tr ρ F H ρ' F' H' ∧ Ex F1 F', ⟨ds.length, by simp, Nat.zero_le _, ρ1, F1, h0, E1, T1, Ex.refl _⟩, ?_⟩
  rintro i m σ' H' ⟨rfl, hi, ρ', F', hI, E', T', e'⟩
  obtain ⟨w1, w2, w3⟩ := hw F' H' e' E'.ex
  by_cases hlt : i < ds.length
  · refine .inr ⟨w1 i hlt, fun σ2 H2 => ∃ ρ2 F2, I (i + 1) ρ2 ∧ Env F2 H2 σ2 ρ2 ∧ Tr ρ F H ρ2 F2 H2 ∧ Ex F1 F2, fun σ2 H2 ⟨ρ2, F2, a, b, c, d⟩ => ⟨ds.length - (i + 1), by omega, rfl, hlt, ρ2, F2, a, b, c, d⟩, fun x H'' hy => ?_⟩
    obtain ⟨e, d, hd', hx⟩ := w3 i x H'' hlt hy
    subst e
    obtain ⟨Fk, hx, Ek, Tk⟩ := hx.know E'
    have T' := T'.trans Tk
    have e' := e'.trans Tk.st.fx
    refine hs i d ρ' hd' hI σ' Fk _ x Ek hx _ fun ρ2 σ2 hb E2 o2 => ?_
    have T2 : Tr ρ F H ρ2 Fk _ := ⟨T'.st, fun a z => T'.sub a (o2 a z)⟩
    refine hb σ2 Fk _ E2 _ (fun ρ3 σ3 F3 H3 h3 E3 T3 => ⟨ρ3, F3, h3, E3, T2.trans T3, e'.trans T3.st.fx⟩) fun c ρ3 σ3 v F3 H3 h3 E3 T3 hc ho => q2 c ρ3 σ3 v F3 H3 h3 E3 (T2.trans T3) hc fun p hp => ⟨(ho p hp).1, ?_⟩
    rcases (ho p hp).2 with z | z
    · exact T2.sub p z
    · exact T2.none_back z
  · have e : i = ds.length := by omega
    subst e
    exact .inl ⟨w2, q1 ρ' σ' F' H' (hd ρ' hI) E' T'⟩
theorem ws_while {tb : TS} (W : Nat → Rho → Prop) (m0 : Nat) (h0 : W m0 ρ) (hs : ∀ m ρ', W m ρ' → WT t ρ' fun b ρ2 => (b = true → WS tb ρ2 (fun ρ3 => ∃ m', m' < m ∧ W m' ρ3) R) ∧ (b = false → N ρ2)) : WS (tWhile t tb) ρ N R := fun σ F H E Dc q1 q2 => by
  refine ⟨fun m σ' H' => ∃ ρ' F', W m ρ' ∧ Env F' H' σ' ρ' ∧ Tr ρ F H ρ' F' H', ⟨m0, ρ, F, h0, E, Tr.refl⟩, ?_⟩
  rintro m σ' H' ⟨ρ', F', hW, E', T'⟩
  refine hs m ρ' hW σ' F' H' E' _ fun b ρ2 F2 H2 hb E2 T2 => ?_
  have T3 := T'.trans T2
  cases b with
  | false => exact q1 ρ2 σ' F2 H2 (hb.2 rfl) E2 T3
  | true =>
    refine ⟨fun σ3 H3 => ∃ m', m' < m ∧ ∃ ρ3 F3, W m' ρ3 ∧ Env F3 H3 σ3 ρ3 ∧ Tr ρ F H ρ3 F3 H3, fun σ3 H3 ⟨m', l, z⟩ => ⟨m', l, z⟩, ?_⟩
    refine hb.1 rfl σ' F2 H2 E2 _ (fun ρ4 σ4 F4 H4 ⟨m', l, h4⟩ E4 T4 => ⟨m', l, ρ4, F4, h4, E4, T3.trans T4⟩) fun c ρ4 σ4 v F4 H4 h4 E4 T4 hc ho => q2 c ρ4 σ4 v F4 H4 h4 E4 (T3.trans T4) hc fun p hp => ⟨(ho p hp).1, ?_⟩
    rcases (ho p hp).2 with z | z
    · exact T3.sub p z
    · exact T3.none_back z

/-! ### comprehensions -/
def wipeR (ρ : Rho) : List Nat → Rho
  | [] => ρ
  | v :: vs => (wipeR ρ vs).set v none
theorem Own.wipe {ρ : Rho} {a : Addr} : ∀ {vs : List Nat}, Own (wipeR ρ vs) a → Own ρ a
  | [], h => h
  | v :: vs, h => by
    rcases Own.set h with z | ⟨c, e, _⟩
    · exact Own.wipe z
    · cases e
theorem Env.wipe {F H : Hp} {σ : St} {ρ : Rho} (E : Env F H σ ρ) : ∀ vs : List Nat, Env F H (wipe σ vs) (wipeR ρ vs)
  | [] => E
  | v :: vs => by
    have ih := Env.wipe E vs
    refine ⟨by show ((L2.wipe σ vs).set v none).length = ((wipeR ρ vs).set v none).length; rw [List.length_set, List.length_set]; exact ih.len, ih.ex, fun i c h => ?_, (ih.forget v).nd⟩
    obtain ⟨x, h1, h2⟩ := (ih.forget v).at_ i c h
    by_cases e : v = i
    · subst e
      exfalso
      have h' : ((wipeR ρ vs).set v none)[v]? = some (some c) := h
      by_cases hl : v < (wipeR ρ vs).length
      · rw [List.getElem?_set_self hl] at h'; cases h'
      · rw [List.getElem?_eq_none (by simpa using hl)] at h'; cases h'
    · exact ⟨x, by show ((L2.wipe σ vs).set v none)[i]? = _; rw [List.getElem?_set_ne e]; exact h1, h2⟩
/-- back from wiped slots -/
theorem Env.unwipe {F H : Hp} {σ : St} {ρ : Rho} {vs : List Nat} (E : Env F H (L2.wipe σ vs) ρ) : Env F H σ ρ := by
  refine ⟨by rw [← wipe_length σ vs]; exact E.len, E.ex, fun i c h => ?_, E.nd⟩
  obtain ⟨x, h1, h2⟩ := E.at_ i c h
  exact ⟨x, (wipe_some h1).1, h2⟩
/-- what H has at p and no slot owns may be known as data -/
theorem Env.freeze {F H : Hp} {σ : St} {ρ : Rho} {p : Addr} {o : HO} (E : Env F H σ ρ) (h : H p = some o) (hn : ¬ Own ρ p) (hf : F p = none) : Env (upd F p o) H σ ρ := by
  have eF : Ex F (upd F p o) := Ex.new hf
  refine ⟨E.len, fun a u ha => ?_, fun i c hi => ?_, E.nd⟩
  · by_cases e : a = p
    · subst e; rw [upd_same] at ha; rw [h]; exact ha
    · rw [upd_ne e] at ha; exact E.ex a u ha
  · obtain ⟨v, h1, h2⟩ := E.at_ i c hi
    refine ⟨v, h1, h2.mono eF fun q hq => ⟨rfl, ?_⟩⟩
    have ne : q ≠ p := fun z => hn (z ▸ ⟨i, c, hi, hq⟩)
    rw [upd_ne ne]
    exact (h2.own_none hq).1
theorem Tr.freeze {ρ ρ' : Rho} {F H F' H' : Hp} {p : Addr} {o : HO} (T : Tr ρ F H ρ' F' H') (h : H p = none ∨ Own ρ p) (hf : F' p = none) : Tr ρ F H ρ' (upd F' p o) H' := by
  refine ⟨⟨T.st.fx.trans (Ex.new hf), fun a u ha n => ?_⟩, T.sub⟩
  obtain ⟨e1, e2⟩ := T.st.keep a u ha n
  have ne : a ≠ p := fun z => by
    subst z
    rcases h with h | h
    · rw [h] at ha; cases ha
    · exact n h
  exact ⟨e1, fun q => by rw [upd_ne ne]; exact e2 q⟩
/-- the accumulator of a comprehension -/
structure Acc (ρ : Rho) (F H : Hp) (A : Addr) (acc : List D) : Prop where
  no : ¬ Own ρ A
  fr : F A = none
  at_ : ∃ vs, H A = some (.lst vs) ∧ IsL F acc vs
theorem Acc.tr {ρ ρ' : Rho} {F H F' H' : Hp} {A : Addr} {acc : List D} (a : Acc ρ F H A acc) (T : Tr ρ F H ρ' F' H') : Acc ρ' F' H' A acc := by
  obtain ⟨vs, h1, h2⟩ := a.at_
  obtain ⟨e1, e2⟩ := T.st.keep A _ h1 a.no
  have no : ¬ Own ρ' A := fun z => (T.sub A z).elim a.no fun q => by
    rw [h1] at q
    cases q
  exact ⟨no, (e2 rfl).trans a.fr, vs, e1, h2.mono T.st.fx⟩
theorem Env.put {F H : Hp} {σ : St} {ρ : Rho} {A : Addr} {o : HO} (E : Env F H σ ρ) (hn : ¬ Own ρ A) (hf : F A = none) : Env F (upd H A o) σ ρ :=
  ⟨E.len, E.ex.mut hf, fun i c hi => by
    obtain ⟨v, h1, h2⟩ := E.at_ i c hi
    refine ⟨v, h1, h2.mono (Ex.refl _) fun q hq => ⟨?_, (h2.own_none hq).1⟩⟩
    have ne : q ≠ A := fun z => hn (z ▸ ⟨i, c, hi, hq⟩)
    exact upd_ne ne, E.nd⟩
theorem Tr.put {ρ ρ' : Rho} {F H F' H' : Hp} {A : Addr} {o : HO} (T : Tr ρ F H ρ' F' H') (h : H A = none ∨ Own ρ A) : Tr ρ F H ρ' F' (upd H' A o) := by
  refine ⟨⟨T.st.fx, fun a u ha n => ?_⟩, T.sub⟩
  obtain ⟨e1, e2⟩ := T.st.keep a u ha n
  have ne : a ≠ A := fun z => by
    subst z
    rcases h with h | h
    · rw [h] at ha; cases ha
    · exact n h
  exact ⟨by rw [upd_ne ne]; exact e1, e2⟩
theorem wipe_comm : ∀ (us : List Nat) (τ : St) (v : Nat), L2.wipe (τ.set v none) us = (L2.wipe τ us).set v none
  | [], τ, v => rfl
  | w :: ws, τ, v => by
    show (L2.wipe (τ.set v none) ws).set w none = ((L2.wipe τ ws).set w none).set v none
    rw [wipe_comm ws τ v]
    by_cases e : w = v
    · subst e; rfl
    · exact (List.set_comm _ _ e).symm
theorem wipe_idem : ∀ (us : List Nat) (τ : St), L2.wipe (L2.wipe τ us) us = L2.wipe τ us
  | [], τ => rfl
  | v :: ws, τ => by
    show (L2.wipe ((L2.wipe τ ws).set v none) ws).set v none = (L2.wipe τ ws).set v none
    rw [wipe_comm, wipe_idem ws τ, List.set_set]
theorem wipe_set : ∀ {us : List Nat} {τ : St} {j : Nat} {x : Option V}, j ∈ us → L2.wipe (τ.set j x) us = L2.wipe τ us
  | [], τ, j, x, h => by cases h
  | v :: ws, τ, j, x, h => by
    show (L2.wipe (τ.set j x) ws).set v none = (L2.wipe τ ws).set v none
    by_cases hj : j ∈ ws
    · rw [wipe_set hj]
    · have e : j = v := (List.mem_cons.mp h).resolve_right hj
      subst e
      have key : ∀ (us : List Nat) (τ : St) (j : Nat) (x : Option V), j ∉ us → L2.wipe (τ.set j x) us = (L2.wipe τ us).set j x := by
        intro us
        induction us with
        | nil => intro τ j x _; rfl
        | cons w r ih =>
          intro τ j x hn
          show (L2.wipe (τ.set j x) r).set w none = ((L2.wipe τ r).set w none).set j x
          rw [ih τ j x fun z => hn (List.mem_cons_of_mem _ z)]
          exact List.set_comm _ _ fun z => hn (z ▸ List.mem_cons_self ..)
      rw [key ws τ j x hj, List.set_set]
/-- a comprehension's target: it stores at the block's own slots alone -/
def WGv (g : TG) (vs : List Nat) (d : D) (ρ : Rho) (M : Rho → Prop) : Prop := ∀ (σ : St) (F H : Hp) (v : V), Env F H σ ρ → Is F d v → ∀ Qc : St → Hp → Prop, (∀ ρ' σ', M ρ' → Env F H σ' ρ' → (∀ a, Own ρ' a → Own ρ a) → L2.wipe σ' vs = L2.wipe σ vs → Qc σ' H) → g v σ H Qc
def WGvs (g : TGs) (vs : List Nat) (ds : List D) (ρ : Rho) (M : Rho → Prop) : Prop := ∀ (σ : St) (F H : Hp) (us : List V), Env F H σ ρ → IsL F ds us → ∀ Qc : St → Hp → Prop, (∀ ρ' σ', M ρ' → Env F H σ' ρ' → (∀ a, Own ρ' a → Own ρ a) → L2.wipe σ' vs = L2.wipe σ vs → Qc σ' H) → g us σ H Qc
theorem wgv_name {vs : List Nat} {i : Nat} {d : D} {M : Rho → Prop} (hi : i ∈ vs) (q : M (ρ.set i (some (.imm d)))) : WGv (gName i) vs d ρ M := fun σ F H v E hd Qc k => k _ _ q (E.set i (c := .imm d) hd fun p hp => by cases hp) (fun a ha => by
  rcases ha.set with z | ⟨c, e, z⟩
  · exact z
  · cases e; cases z) (wipe_set hi)
theorem wgvs_nil {vs : List Nat} {M : Rho → Prop} (q : M ρ) : WGvs gNil vs [] ρ M := fun σ F H us E hd Qc k => ⟨hd, k ρ σ q E (fun _ z => z) rfl⟩
theorem wgvs_cons {vs : List Nat} {g : TG} {gs : TGs} {d : D} {ds : List D} {M : Rho → Prop} (h : WGv g vs d ρ fun ρ1 => WGvs gs vs ds ρ1 M) : WGvs (gCons g gs) vs (d :: ds) ρ M := fun σ F H us E hd Qc k => by
  obtain ⟨v, r, e, h1, h2⟩ := hd
  refine ⟨v, r, e, h σ F H v E h1 _ fun ρ1 σ1 q1 E1 o1 w1 => ?_⟩
  exact q1 σ1 F H r E1 h2 Qc fun ρ2 σ2 q2 E2 o2 w2 => k ρ2 σ2 q2 E2 (fun a z => o1 a (o2 a z)) (w2.trans w1)
theorem wgv_tup {vs : List Nat} {n : Nat} {gs : TGs} {ds : List D} {M : Rho → Prop} (hn : ds.length = n) (h : WGvs gs vs ds ρ M) : WGv (gTup K n gs) vs (.tup ds) ρ M := fun σ F H v E hd Qc k => by
  obtain ⟨a, us, e, h1, h2⟩ := hd
  exact ⟨a, us, e, SqT.of (E.ex _ _ h1), by rw [h2.length]; exact hn, h σ F H us E h2 Qc k⟩
/-- what a comprehension's turn leaves -/
def Lft (ρ : Rho) (F F1 H : Hp) (A : Addr) (vs : List Nat) (σ : St) (I : List D → Rho → Prop) (n : Nat) (H' : Hp) : Prop :=
  ∃ acc ρ' F', acc.length ≤ n ∧ I acc ρ' ∧ Env F' H' (L2.wipe σ vs) ρ' ∧ Tr ρ F H ρ' F' H' ∧ Acc ρ' F' H' A acc ∧ Ex F1 F'
theorem we_lc {wi : TI} {g : TG} {vs : List Nat} (h : WI wi ρ fun ds ρ1 => ∃ I : Nat → List D → Rho → Prop, ds.length ≤ 100000 ∧ I 0 [] (wipeR ρ1 vs) ∧
      (∀ i d acc ρ', ds[i]? = some d → I i acc ρ' → WGv g vs d ρ' fun ρ2 => WT tt ρ2 fun b ρ3 => (b = true → WE te ρ3 fun y ρ4 => I (i + 1) (acc ++ [y]) (wipeR ρ4 vs)) ∧ (b = false → I (i + 1) acc (wipeR ρ3 vs))) ∧
      ∀ acc ρ', I ds.length acc ρ' → Q (.lst acc) ρ') : WE (tLc wi g tt te vs) ρ Q := fun σ F H E Qc k => by
  refine h σ F H E _ fun ds ρ1 J F1 H1 ⟨I, hz, h0, hs, hd⟩ E1 T1 hw A hA => ?_
  have nA : ¬ Own ρ1 A := fun z => E1.own_some z hA
  have fA : F1 A = none := E1.ex.back hA
  have A0 : H A = none ∨ Own ρ A := (T1.none_back hA).symm
  refine ⟨fun i m H' => m = ds.length - i ∧ i ≤ ds.length ∧ Lft ρ F F1 H A vs σ (I i) i H', ⟨ds.length, by simp, Nat.zero_le _, [], wipeR ρ1 vs, F1, Nat.le_refl _, h0, (E1.put nA fA).wipe vs, Tr.put ⟨T1.st, fun a z => T1.sub a z.wipe⟩ A0, ⟨fun z => nA z.wipe, fA, [], upd_same, rfl⟩, Ex.refl _⟩, ?_⟩
  rintro i m H' ⟨rfl, hi, acc, ρ', F', hl, hI, E', T', ac, e'⟩
  obtain ⟨w1, w2, w3⟩ := hw F' H' e' E'.ex
  by_cases hlt : i < ds.length
  · refine .inr ⟨w1 i hlt, Lft ρ F F1 H A vs σ (I (i + 1)) (i + 1), fun H2 z => ⟨ds.length - (i + 1), by omega, rfl, hlt, z⟩, fun x H'' hy => ?_⟩
    obtain ⟨e, d, hd', hx⟩ := w3 i x H'' hlt hy
    subst e
    obtain ⟨Fk, hx, Ek, Tk⟩ := hx.know E'
    have T' := T'.trans Tk
    have e' := e'.trans Tk.st.fx
    have ac := ac.tr Tk
    refine hs i d acc ρ' hd' hI (L2.wipe σ vs) Fk _ x Ek hx _ fun ρ2 σ2 ht E2 o2 ww => ?_
    have ww : L2.wipe σ2 vs = L2.wipe σ vs := ww.trans (wipe_idem vs σ)
    have T2 : Tr ρ F H ρ2 Fk _ := ⟨T'.st, fun a z => T'.sub a (o2 a z)⟩
    have ac2 : Acc ρ2 Fk _ A acc := ⟨fun z => ac.no (o2 A z), ac.fr, ac.at_⟩
    refine ⟨ww, ht σ2 Fk _ E2 _ fun b ρ3 F3 H3 hb E3 T3 => ?_⟩
    have ac3 := ac2.tr T3
    have T3' := T2.trans T3
    cases b with
    | false =>
      have E4 := E3.wipe vs
      rw [ww] at E4
      exact ⟨acc, _, F3, by omega, hb.2 rfl, E4, ⟨T3'.st, fun a z => T3'.sub a z.wipe⟩, ⟨fun z => ac3.no z.wipe, ac3.fr, ac3.at_⟩, e'.trans T3.st.fx⟩
    | true =>
      refine hb.1 rfl σ2 F3 H3 E3 _ fun y ρ4 v F4 H4 h4 E4 T4 iy => ?_
      have ac4 := ac3.tr T4
      have T4' := T3'.trans T4
      obtain ⟨us, a1, a2⟩ := ac4.at_
      refine ⟨us, a1, by rw [a2.length]; exact Nat.lt_of_le_of_lt (Nat.le_trans (Nat.le_trans hl hi) hz) (by decide), acc ++ [y], wipeR ρ4 vs, F4, by rw [List.length_append, List.length_singleton]; omega, h4, ?_, Tr.put ⟨T4'.st, fun a z => T4'.sub a z.wipe⟩ A0, ⟨fun z => ac4.no z.wipe, ac4.fr, _, upd_same, a2.append (IsL.one iy)⟩, (e'.trans T3.st.fx).trans T4.st.fx⟩
      have E5 := (E4.put (o := .lst (us ++ [v])) ac4.no ac4.fr).wipe vs
      rw [ww] at E5
      exact E5
  · have e : i = ds.length := by omega
    subst e
    refine .inl ⟨w2, ?_⟩
    obtain ⟨us, a1, a2⟩ := ac.at_
    have E3 := (E'.unwipe).freeze a1 ac.no ac.fr
    exact k _ ρ' _ _ _ (hd acc ρ' hI) E3 (T'.freeze A0 ac.fr) ⟨A, us, rfl, upd_same, a2.mono (Ex.new ac.fr)⟩
end
end K47

set_option Elab.async false
set_option linter.all false
set_option maxRecDepth 100000
set_option maxHeartbeats 4000000
/-! The logic's operations by values, calls, owned lists and dicts. -/
namespace K47
open PySem L2

/-! ### operations -/
def rLtE : R2 := rI0 fun i j => .bl (decide (i ≤ j))
def rPlus (K : PySem.W.Frag) : R2 := fun x y H Q => (rI0 (fun i j => .int (i + j)) x y H Q ∨ rCat x y H Q) ∨ rCatA K x y H Q
theorem op_plus {X : Cx} : OpR X (binaryOp .Add) (rPlus X.K) := (op_add.or op_cat).or op_catA
def rTimes (K : PySem.W.Frag) : R2 := fun x y H Q => (rI CMul (fun i j => .int (i * j)) x y H Q ∨ rRepT K x y H Q) ∨ rRep0 K x y H Q
theorem op_times {X : Cx} : OpR X (binaryOp .Mult) (rTimes X.K) := (op_mul.or op_repT).or op_rep0
def rIsN : R2 := fun x y H Q => y = .non ∧ Q (.bl (decide (x = .non))) H
def rNotN : R2 := fun x y H Q => y = .non ∧ Q (.bl (!decide (x = .non))) H
theorem op_isN1 {X : Cx} : OpR X (compareOp .Is) rIsN := op_isN
theorem op_notN1 {X : Cx} : OpR X (compareOp .IsNot) rNotN := op_notN
def D.isNon : D → Bool
  | .non => true
  | _ => false
theorem Is.isNon {F : Hp} {d : D} {v : V} (h : Is F d v) : decide (v = .non) = d.isNon := by
  cases d with
  | non => cases h; rfl
  | bl b => cases h; rfl
  | int b => cases h; rfl
  | str b => cases h; rfl
  | tup ds => obtain ⟨a, vs, rfl, _⟩ := h; rfl
  | lst ds => obtain ⟨a, vs, rfl, _⟩ := h; rfl

section
variable {K : PySem.W.Frag} {P : D → Prop}
theorem rd_I0 {g : Int → Int → Int} {i j : Int} (q : P (.int (g i j))) : RD (rI0 fun i j => .int (g i j)) (.int i) (.int j) P := fun F H x y e h1 h2 Qc k => ⟨i, j, h1, h2, k _ _ F H q (Gr.refl e) rfl⟩
theorem rd_B0 {g : Int → Int → Bool} {i j : Int} (q : P (.bl (g i j))) : RD (rI0 fun i j => .bl (g i j)) (.int i) (.int j) P := fun F H x y e h1 h2 Qc k => ⟨i, j, h1, h2, k _ _ F H q (Gr.refl e) rfl⟩
theorem rd_I {C : Int → Int → Prop} {g : Int → Int → Int} {i j : Int} (hc : C i j) (q : P (.int (g i j))) : RD (rI C fun i j => .int (g i j)) (.int i) (.int j) P := fun F H x y e h1 h2 Qc k => ⟨i, j, h1, h2, hc, k _ _ F H q (Gr.refl e) rfl⟩
theorem rd_plusI {i j : Int} (q : P (.int (i + j))) : RD (rPlus K) (.int i) (.int j) P := fun F H x y e h1 h2 Qc k => .inl (.inl (rd_I0 (g := fun i j => i + j) q F H x y e h1 h2 Qc k))
theorem rd_plusL {xs ys : List D} (hz : xs.length + ys.length ≤ 100000) (q : P (.lst (xs ++ ys))) : RD (rPlus K) (.lst xs) (.lst ys) P := fun F H x y e h1 h2 Qc k => by
  obtain ⟨a, vs, rfl, h3, h4⟩ := h1
  obtain ⟨b, us, rfl, h5, h6⟩ := h2
  refine .inl (.inr ⟨a, b, vs, us, rfl, rfl, e _ _ h3, e _ _ h5, by rw [h4.length, h6.length]; exact Nat.le_trans hz (by decide), fun p hp => ?_⟩)
  have g := Gr.new e hp (o := .lst (vs ++ us))
  exact k _ _ _ _ q g ⟨p, _, rfl, upd_same, (h4.append h6).mono g.1.fx⟩
theorem rd_plusT {xs ys : List D} (hz : xs.length + ys.length ≤ 100000) (q : P (.tup (xs ++ ys))) : RD (rPlus K) (.tup xs) (.tup ys) P := fun F H x y e h1 h2 Qc k => by
  obtain ⟨a, vs, rfl, h3, h4⟩ := h1
  obtain ⟨b, us, rfl, h5, h6⟩ := h2
  refine .inr ⟨a, b, vs, us, rfl, rfl, SqT.of (e _ _ h3), SqT.of (e _ _ h5), by rw [h4.length, h6.length]; exact Nat.le_trans hz (by decide), fun z => ?_, fun z1 z2 => ?_, fun z1 z2 p hp => ?_⟩
  · have : xs = [] := List.eq_nil_of_length_eq_zero (by rw [← h4.length, z]; rfl)
    subst this
    exact k _ _ F H q (Gr.refl e) ⟨b, us, rfl, h5, h6⟩
  · have : ys = [] := List.eq_nil_of_length_eq_zero (by rw [← h6.length, z2]; rfl)
    subst this
    rw [List.append_nil] at q
    exact k _ _ F H q (Gr.refl e) ⟨a, vs, rfl, h3, h4⟩
  · have g := Gr.new e hp (o := .tup (vs ++ us))
    exact k _ _ _ _ q g ⟨p, _, rfl, upd_same, (h4.append h6).mono g.1.fx⟩
theorem rd_timesI {i j : Int} (hc : CMul i j) (q : P (.int (i * j))) : RD (rTimes K) (.int i) (.int j) P := fun F H x y e h1 h2 Qc k => .inl (.inl (rd_I (C := CMul) (g := fun i j => i * j) hc q F H x y e h1 h2 Qc k))
theorem rd_timesT {xs : List D} {k : Int} (h1 : 2 ≤ k) (h2 : k ≤ 1000) (h3 : xs.length ≤ 1000) (q : P (.tup (List.replicate k.toNat xs).flatten)) : RD (rTimes K) (.tup xs) (.int k) P := fun F H x y e g1 g2 Qc kk => by
  obtain ⟨a, vs, rfl, h4, h5⟩ := g1
  have g2 : y = .int k := g2
  subst g2
  by_cases hv : vs = []
  · subst hv
    have : xs = [] := List.eq_nil_of_length_eq_zero (by rw [← h5.length]; rfl)
    subst this
    have e0 : (List.replicate k.toNat ([] : List D)).flatten = [] := by simp
    rw [e0] at q
    exact .inr ⟨a, k, rfl, rfl, SqT.of (e _ _ h4), by omega, h2, kk _ _ F H q (Gr.refl e) ⟨a, [], rfl, h4, h5⟩⟩
  · refine .inl (.inr ⟨a, k, vs, rfl, rfl, SqT.of (e _ _ h4), hv, h1, h2, by rw [h5.length]; exact h3, fun p hp => ?_⟩)
    have g := Gr.new e hp (o := .tup (List.replicate k.toNat vs).flatten)
    exact kk _ _ _ _ q g ⟨p, _, rfl, upd_same, (h5.rep k.toNat).mono g.1.fx⟩
theorem rd_ixT {ds : List D} {i : Int} {d : D} (ha : atI ds i = some d) (q : P d) : RD (rIx K) (.tup ds) (.int i) P := fun F H x y e h1 h2 Qc k => by
  obtain ⟨a, vs, rfl, h3, h4⟩ := h1
  have h2 : y = .int i := h2
  subst h2
  have ha' : (ixN ds.length i).bind (fun j => ds[j]?) = some d := ha
  cases hj : ixN ds.length i with
  | none => rw [hj] at ha'; cases ha'
  | some j =>
    rw [hj] at ha'
    obtain ⟨v, g1, g2⟩ := h4.get (show ds[j]? = some d from ha')
    exact .inr (.inl ⟨a, vs, i, v, rfl, rfl, SqT.of (e _ _ h3), by show (ixN vs.length i).bind (fun j => vs[j]?) = some v; rw [h4.length, hj]; exact g1, k d v F H q (Gr.refl e) g2⟩)
theorem rd_ixL {ds : List D} {i : Int} {d : D} (ha : atI ds i = some d) (q : P d) : RD (rIx K) (.lst ds) (.int i) P := fun F H x y e h1 h2 Qc k => by
  obtain ⟨a, vs, rfl, h3, h4⟩ := h1
  have h2 : y = .int i := h2
  subst h2
  have ha' : (ixN ds.length i).bind (fun j => ds[j]?) = some d := ha
  cases hj : ixN ds.length i with
  | none => rw [hj] at ha'; cases ha'
  | some j =>
    rw [hj] at ha'
    obtain ⟨v, g1, g2⟩ := h4.get (show ds[j]? = some d from ha')
    exact .inl ⟨a, vs, i, v, rfl, rfl, SqL.of (e _ _ h3), by show (ixN vs.length i).bind (fun j => vs[j]?) = some v; rw [h4.length, hj]; exact g1, k d v F H q (Gr.refl e) g2⟩
theorem rd_eqI {i j : Int} (q : P (.bl (decide (i = j)))) : RD rEq (.int i) (.int j) P := fun F H x y e h1 h2 Qc k => by
  have h1 : x = .int i := h1
  have h2 : y = .int j := h2
  subst h1 h2
  have e' : decide (V.int i = V.int j) = decide (i = j) := by rw [dec_int, Bool.beq_eq_decide_eq]
  exact ⟨rfl, k _ _ F H q (Gr.refl e) (by show V.bl _ = V.bl _; rw [e'])⟩
theorem rd_neI {i j : Int} (q : P (.bl (!decide (i = j)))) : RD rNe (.int i) (.int j) P := fun F H x y e h1 h2 Qc k => by
  have h1 : x = .int i := h1
  have h2 : y = .int j := h2
  subst h1 h2
  have e' : decide (V.int i = V.int j) = decide (i = j) := by rw [dec_int, Bool.beq_eq_decide_eq]
  exact ⟨rfl, k _ _ F H q (Gr.refl e) (by show V.bl _ = V.bl _; rw [e'])⟩
theorem rd_eqS {i j : Str} (q : P (.bl (decide (i = j)))) : RD rEq (.str i) (.str j) P := fun F H x y e h1 h2 Qc k => by
  have h1 : x = .str i := h1
  have h2 : y = .str j := h2
  subst h1 h2
  have e' : decide (V.str i = V.str j) = decide (i = j) := by
    by_cases z : i = j
    · subst z; simp
    · rw [decide_eq_false z, decide_eq_false fun q => z (V.str.inj q)]
  exact ⟨rfl, k _ _ F H q (Gr.refl e) (by show V.bl _ = V.bl _; rw [e'])⟩
theorem rd_neS {i j : Str} (q : P (.bl (!decide (i = j)))) : RD rNe (.str i) (.str j) P := fun F H x y e h1 h2 Qc k => by
  have h1 : x = .str i := h1
  have h2 : y = .str j := h2
  subst h1 h2
  have e' : decide (V.str i = V.str j) = decide (i = j) := by
    by_cases z : i = j
    · subst z; simp
    · rw [decide_eq_false z, decide_eq_false fun q => z (V.str.inj q)]
  exact ⟨rfl, k _ _ F H q (Gr.refl e) (by show V.bl _ = V.bl _; rw [e'])⟩
theorem rd_eqB {i j : Bool} (q : P (.bl (i == j))) : RD rEq (.bl i) (.bl j) P := fun F H x y e h1 h2 Qc k => by
  have h1 : x = .bl i := h1
  have h2 : y = .bl j := h2
  subst h1 h2
  exact ⟨rfl, k _ _ F H q (Gr.refl e) (by show V.bl _ = V.bl _; rw [dec_bl])⟩
theorem rd_isN {d : D} (q : P (.bl d.isNon)) : RD rIsN d .non P := fun F H x y e h1 h2 Qc k => ⟨h2, k _ _ F H q (Gr.refl e) (by show V.bl _ = V.bl _; rw [h1.isNon])⟩
theorem rd_notN {d : D} (q : P (.bl (!d.isNon))) : RD rNotN d .non P := fun F H x y e h1 h2 Qc k => ⟨h2, k _ _ F H q (Gr.refl e) (by show V.bl _ = V.bl _; rw [h1.isNon])⟩
theorem rd_notB {i j : Bool} (q : P (.bl (!decide (i = j)))) : RD rNotB (.bl i) (.bl j) P := fun F H x y e h1 h2 Qc k => ⟨i, j, h1, h2, k _ _ F H q (Gr.refl e) rfl⟩
theorem ru_neg {i : Int} (q : P (.int (-i))) : RU1 (rU fun i => .int (-i)) (.int i) P := fun F H x e h1 Qc k => ⟨i, h1, k _ _ F H q (Gr.refl e) rfl⟩
/-- x in ints -/
theorem inV_ints (x : Int) : ∀ ns : List Int, inV (.int x) (ns.map V.int) = decide (x ∈ ns)
  | [] => rfl
  | n :: ns => by
    have ih := inV_ints x ns
    have e : inV (.int x) ((n :: ns).map V.int) = ((n == x) || inV (.int x) (ns.map V.int)) := rfl
    rw [e, ih]
    by_cases h : n = x
    · subst h; simp
    · have h' : ¬ x = n := fun z => h z.symm
      simp [h, h']
theorem flat_ints : ∀ ns : List Int, (ns.map V.int).all flatV = true
  | [] => rfl
  | n :: ns => flat_ints ns
theorem IsL.seq {F H : Hp} (e : Ex F H) {d : D} {ns : List Int} {v : V} (h : Is F d v) (hd : d = .tup (ns.map .int) ∨ d = .lst (ns.map .int)) : ∃ p, v = .ref p ∧ (SqL K H p (ns.map V.int) ∨ SqT K H p (ns.map V.int)) := by
  rcases hd with rfl | rfl
  · obtain ⟨a, vs, rfl, h1, h2⟩ := h
    rw [h2.ints_eq] at h1
    exact ⟨a, rfl, .inr (SqT.of (e _ _ h1))⟩
  · obtain ⟨a, vs, rfl, h1, h2⟩ := h
    rw [h2.ints_eq] at h1
    exact ⟨a, rfl, .inl (SqL.of (e _ _ h1))⟩
theorem rd_in {x : Int} {d : D} {ns : List Int} (hd : d = .tup (ns.map .int) ∨ d = .lst (ns.map .int)) (q : P (.bl (decide (x ∈ ns)))) : RD (rIn K false) (.int x) d P := fun F H a b e h1 h2 Qc k => by
  have h1 : a = .int x := h1
  subst h1
  obtain ⟨p, e1, e2⟩ := IsL.seq (K := K) e h2 hd
  refine ⟨p, _, e1, e2, rfl, flat_ints ns, ?_⟩
  exact k _ _ F H q (Gr.refl e) (by show V.bl (inV _ _) = _; rw [inV_ints])
theorem rd_notIn {x : Int} {d : D} {ns : List Int} (hd : d = .tup (ns.map .int) ∨ d = .lst (ns.map .int)) (q : P (.bl (!decide (x ∈ ns)))) : RD (rIn K true) (.int x) d P := fun F H a b e h1 h2 Qc k => by
  have h1 : a = .int x := h1
  subst h1
  obtain ⟨p, e1, e2⟩ := IsL.seq (K := K) e h2 hd
  refine ⟨p, _, e1, e2, rfl, flat_ints ns, ?_⟩
  exact k _ _ F H q (Gr.refl e) (by show V.bl (!inV _ _) = _; rw [inV_ints])
/-- ints tables == () -/
def toP : D → PyData
  | .non => .none
  | .bl b => .bool b
  | .int i => .int i
  | .str x => .str x
  | _ => .none
theorem dp_ints {F H : Hp} (e : Ex F H) : ∀ {ns : List Int} {vs : List V}, IsL F (ns.map D.int) vs → DpAll K H vs (ns.map PyData.int)
  | [], vs, h => by
    have h : vs = [] := h
    subst h; exact .nil
  | n :: ns, vs, h => by
    obtain ⟨v, r, rfl, h2, h3⟩ := h
    have h2 : v = .int n := h2
    subst h2
    exact .cons (.int n) (dp_ints e h3)
theorem dp_tabs {F H : Hp} (e : Ex F H) : ∀ {ts : List (List Int)} {vs : List V}, IsL F (ts.map fun t => D.tup (t.map D.int)) vs → DpAll K H vs (ts.map fun t => PyData.tuple (t.map PyData.int))
  | [], vs, h => by
    have h : vs = [] := h
    subst h; exact .nil
  | t :: ts, vs, h => by
    obtain ⟨v, r, rfl, ⟨a, us, rfl, h4, h5⟩, h3⟩ := h
    exact .cons (.tup (SqT.of (e _ _ h4)) (dp_ints e h5)) (dp_tabs e h3)
theorem lay_ints : ∀ ns : List Int, PyData.canLayAll0 (ns.map PyData.int) = true
  | [] => rfl
  | n :: ns => by show (true && PyData.canLayAll0 (ns.map PyData.int)) = true; rw [lay_ints ns]; rfl
theorem lay_tabs : ∀ ts : List (List Int), PyData.canLayAll0 (ts.map fun t => PyData.tuple (t.map PyData.int)) = true
  | [] => rfl
  | t :: ts => by show (PyData.canLayAll0 (t.map PyData.int) && PyData.canLayAll0 _) = true; rw [lay_ints t, lay_tabs ts]; rfl
theorem dep_ints : ∀ ns : List Int, PyData.depthAll (ns.map PyData.int) = 0
  | [] => rfl
  | n :: ns => by show max 0 (PyData.depthAll (ns.map PyData.int)) = 0; rw [dep_ints ns]; rfl
theorem dep_tabs : ∀ ts : List (List Int), PyData.depthAll (ts.map fun t => PyData.tuple (t.map PyData.int)) ≤ 1
  | [] => Nat.zero_le _
  | t :: ts => by
    show max (PyData.depthAll (t.map PyData.int) + 1) (PyData.depthAll _) ≤ 1
    rw [dep_ints t]
    have := dep_tabs ts
    omega
theorem rd_eqNil {ts : List (List Int)} (q : P (.bl ts.isEmpty)) : RD (rEqD K) (.tup (ts.map fun t => D.tup (t.map D.int))) (.tup []) P := fun F H x y e h1 h2 Qc k => by
  obtain ⟨a, vs, rfl, h3, h4⟩ := h1
  obtain ⟨b, us, rfl, h5, h6⟩ := h2
  have h6 : us = [] := h6
  subst h6
  refine ⟨.tuple (ts.map fun t => PyData.tuple (t.map PyData.int)), .tuple [], .tup (SqT.of (e _ _ h3)) (dp_tabs e h4), .tup (SqT.of (e _ _ h5)) .nil, ?_, rfl, k _ _ F H q (Gr.refl e) ?_⟩
  · show (PyData.canLayAll0 _ && decide (PyData.depthAll _ + 1 ≤ 64)) = true
    rw [lay_tabs, decide_eq_true (by have := dep_tabs ts; omega)]
    rfl
  · show V.bl (PyData.eqvAll _ []) = V.bl ts.isEmpty
    cases ts <;> rfl

/-! ### built-ins -/
theorem rc_len {d : D} {ds : List D} (hd : d = .tup ds ∨ d = .lst ds) (q : P (.int (ds.length : Int))) : RCa (fun xs H Q => ∃ p ys, xs = [V.ref p] ∧ (SqL K H p ys ∨ SqT K H p ys) ∧ Q (.int ys.length) H) [d] P := fun F H vs e h Qc k => by
  obtain ⟨v, r, rfl, h1, h2⟩ := h
  have h2 : r = [] := h2
  subst h2
  rcases hd with rfl | rfl
  · obtain ⟨a, us, rfl, h3, h4⟩ := h1
    exact ⟨a, us, rfl, .inr (SqT.of (e _ _ h3)), k _ _ F H q (Gr.refl e) (by show V.int _ = V.int _; rw [h4.length])⟩
  · obtain ⟨a, us, rfl, h3, h4⟩ := h1
    exact ⟨a, us, rfl, .inl (SqL.of (e _ _ h3)), k _ _ F H q (Gr.refl e) (by show V.int _ = V.int _; rw [h4.length])⟩
theorem rc_abs {i : Int} (q : P (.int (if i < 0 then -i else i))) : RCa (fun xs H Q => ∃ i, xs = [V.int i] ∧ Q (.int (if i < 0 then -i else i)) H) [.int i] P := fun F H vs e h Qc k => by
  obtain ⟨v, r, rfl, h1, h2⟩ := h
  have h2 : r = [] := h2
  have h1 : v = .int i := h1
  subst h1 h2
  exact ⟨i, rfl, k _ _ F H q (Gr.refl e) rfl⟩
theorem rc_intI {i : Int} (q : P (.int i)) : RCa (fun xs H Q => (∃ i, xs = [V.int i] ∧ Q (.int i) H) ∨ ∃ k, xs = [V.bl k] ∧ Q (.int (if k then 1 else 0)) H) [.int i] P := fun F H vs e h Qc k => by
  obtain ⟨v, r, rfl, h1, h2⟩ := h
  have h2 : r = [] := h2
  have h1 : v = .int i := h1
  subst h1 h2
  exact .inl ⟨i, rfl, k _ _ F H q (Gr.refl e) rfl⟩
theorem rc_intB {b : Bool} (q : P (.int (if b then 1 else 0))) : RCa (fun xs H Q => (∃ i, xs = [V.int i] ∧ Q (.int i) H) ∨ ∃ k, xs = [V.bl k] ∧ Q (.int (if k then 1 else 0)) H) [.bl b] P := fun F H vs e h Qc k => by
  obtain ⟨v, r, rfl, h1, h2⟩ := h
  have h2 : r = [] := h2
  have h1 : v = .bl b := h1
  subst h1 h2
  exact .inr ⟨b, rfl, k _ _ F H q (Gr.refl e) rfl⟩
theorem rc_all {bs : List Bool} {ds : List D} (hd : ds = bs.map .bl) (q : P (.bl (bs.all id))) : RCa (rAll K) [.lst ds] P := fun F H vs e h Qc k => by
  subst hd
  obtain ⟨v, r, rfl, ⟨a, us, rfl, h3, h4⟩, h2⟩ := h
  have h2 : r = [] := h2
  subst h2
  rw [h4.bls_eq] at h3
  exact ⟨a, bs, rfl, SqL.of (e _ _ h3), k _ _ F H q (Gr.refl e) rfl⟩
theorem rc_list {d : D} {ds : List D} (hd : d = .tup ds ∨ d = .lst ds) (q : P (.lst ds)) : RCa (fun xs H Q => ∃ p ys, xs = [V.ref p] ∧ (SqL K H p ys ∨ SqT K H p ys) ∧ ∀ l, H l = none → Q (.ref l) (upd H l (.lst ys))) [d] P := fun F H vs e h Qc k => by
  obtain ⟨v, r, rfl, h1, h2⟩ := h
  have h2 : r = [] := h2
  subst h2
  rcases hd with rfl | rfl
  · obtain ⟨a, us, rfl, h3, h4⟩ := h1
    refine ⟨a, us, rfl, .inr (SqT.of (e _ _ h3)), fun l hl => ?_⟩
    have g := Gr.new e hl (o := .lst us)
    exact k _ _ _ _ q g ⟨l, us, rfl, upd_same, h4.mono g.1.fx⟩
  · obtain ⟨a, us, rfl, h3, h4⟩ := h1
    refine ⟨a, us, rfl, .inl (SqL.of (e _ _ h3)), fun l hl => ?_⟩
    have g := Gr.new e hl (o := .lst us)
    exact k _ _ _ _ q g ⟨l, us, rfl, upd_same, h4.mono g.1.fx⟩
theorem rc_tuple {d : D} {ds : List D} (hd : d = .tup ds ∨ d = .lst ds) (q : P (.tup ds)) : RCa (fun xs H Q => ∃ p ys, xs = [V.ref p] ∧ ((SqL K H p ys ∧ ∀ l, H l = none → Q (.ref l) (upd H l (.tup ys))) ∨ (SqT K H p ys ∧ Q (.ref p) H))) [d] P := fun F H vs e h Qc k => by
  obtain ⟨v, r, rfl, h1, h2⟩ := h
  have h2 : r = [] := h2
  subst h2
  rcases hd with rfl | rfl
  · obtain ⟨a, us, rfl, h3, h4⟩ := h1
    exact ⟨a, us, rfl, .inr ⟨SqT.of (e _ _ h3), k _ _ F H q (Gr.refl e) ⟨a, us, rfl, h3, h4⟩⟩⟩
  · obtain ⟨a, us, rfl, h3, h4⟩ := h1
    refine ⟨a, us, rfl, .inl ⟨SqL.of (e _ _ h3), fun l hl => ?_⟩⟩
    have g := Gr.new e hl (o := .tup us)
    exact k _ _ _ _ q g ⟨l, us, rfl, upd_same, h4.mono g.1.fx⟩
theorem rc_sorted {ns : List Int} (hz : ns.length < 64) (q : ∀ ms : List Int, ms.Perm ns → ms.Pairwise (· ≤ ·) → P (.lst (ms.map .int))) : RCa (rSorted K) [.lst (ns.map .int)] P := fun F H vs e h Qc k => by
  obtain ⟨v, r, rfl, ⟨a, us, rfl, h3, h4⟩, h2⟩ := h
  have h2 : r = [] := h2
  subst h2
  rw [h4.ints_eq] at h3
  refine ⟨a, ns, rfl, SqL.of (e _ _ h3), hz, fun ms p h5 h6 hp => ?_⟩
  have g := Gr.new e hp (o := .lst (ms.map V.int))
  exact k _ _ _ _ (q ms h5 h6) g ⟨p, _, rfl, upd_same, IsL.ints ms⟩
end

section
variable {te ta tb tc tl : TE} {tt t u : TT} {ρ : Rho} {Q : D → Rho → Prop} {N : Rho → Prop} {R : Cell → Rho → Prop} {ts t1 t2 : TS} {K : PySem.W.Frag}
/-! isinstance -/
def D.ty : D → String
  | .non => "NoneType"
  | .bl _ => "bool"
  | .int _ => "int"
  | .str _ => "str"
  | .tup _ => "tuple"
  | .lst _ => "list"
def isaS (a T : String) : Bool := a == T || (a == "bool" && T == "int")
def D.isa (d : D) (T : String) : Bool := isaS d.ty T
theorem kit_isaS {a T : String} (ha : a = "NoneType" ∨ a = "int" ∨ a = "bool" ∨ a = "str" ∨ a = "tuple" ∨ a = "list") (hT : T = "int" ∨ T = "bool" ∨ T = "str" ∨ T = "tuple" ∨ T = "list") : kitB a T = some (isaS a T) := by
  rcases hT with rfl | rfl | rfl | rfl | rfl <;> rcases ha with rfl | rfl | rfl | rfl | rfl | rfl <;> decide +kernel
theorem kit_isa (d : D) {T : String} (hT : T = "int" ∨ T = "bool" ∨ T = "str" ∨ T = "tuple" ∨ T = "list") : kitB d.ty T = some (d.isa T) := by
  refine kit_isaS ?_ hT
  cases d <;> simp [D.ty]
theorem Is.tyX {F H : Hp} (e : Ex F H) {d : D} {v : V} (h : Is F d v) : TyX K H v (.type d.ty) := by
  cases d with
  | non => cases h; exact .base .non
  | bl b => cases h; exact .base (.bl b)
  | int b => cases h; exact .base (.int b)
  | str b => cases h; exact .base (.str b)
  | tup ds => obtain ⟨a, vs, rfl, h1, _⟩ := h; exact .base (.tup (e _ _ h1))
  | lst ds => obtain ⟨a, vs, rfl, h1, _⟩ := h; exact .base (.lst (e _ _ h1))
theorem we_isi {T : String} (hT : T = "int" ∨ T = "bool" ∨ T = "str" ∨ T = "tuple" ∨ T = "list") (h : WE ta ρ fun d ρ1 => Q (.bl (d.isa T)) ρ1) : WE (tCB (rIsi K) (tCons ta (tCons (tC (.ty T)) tNil))) ρ Q := fun σ F H E Qc k => by
  refine h σ F H E _ fun d ρ1 x F1 H1 h1 E1 T1 i1 => ?_
  exact ⟨x, .ty T, .type d.ty, .type T, d.isa T, rfl, .ty T, i1.tyX E1.ex, kit_ty (kit_isa d hT), k _ ρ1 _ F1 H1 h1 E1 T1 rfl⟩

/-! slices -/
def cutD (xs : List D) (lo hi : Option Int) : List D := (xs.drop (HT.sIx xs.length 0 lo)).take (HT.sIx xs.length xs.length hi - HT.sIx xs.length 0 lo)
theorem IsL.cut {F : Hp} {ds : List D} {vs : List V} (h : IsL F ds vs) (lo hi : Option Int) : IsL F (cutD ds lo hi) (cutV vs lo hi) := by
  unfold cutD cutV
  rw [h.length]
  exact (h.drop _).take _
def WO (to : TO) (ρ : Rho) (Q : Option Int → Rho → Prop) : Prop := ∀ (σ : St) (F H : Hp), Env F H σ ρ → ∀ Qc : Option Int → Hp → Prop, (∀ o ρ' F' H', Q o ρ' → Env F' H' σ ρ' → Tr ρ F H ρ' F' H' → Qc o H') → to σ H Qc
theorem wo_none {Qo : Option Int → Rho → Prop} (q : Qo none ρ) : WO tNoPart ρ Qo := fun σ F H E Qc k => k none ρ F H q E Tr.refl
theorem wo_some {Qo : Option Int → Rho → Prop} (h : WE te ρ fun d ρ1 => ∃ i, d = .int i ∧ Qo (some i) ρ1) : WO (tPart te) ρ Qo := fun σ F H E Qc k => by
  refine h σ F H E _ fun d ρ1 x F1 H1 ⟨i, e, h1⟩ E1 T1 i1 => ?_
  subst e
  exact ⟨i, i1, k _ ρ1 F1 H1 h1 E1 T1⟩
theorem cutD_whole {ds : List D} {lo hi : Option Int} (h : HT.sIx ds.length 0 lo = 0 ∧ HT.sIx ds.length ds.length hi = ds.length) : cutD ds lo hi = ds := by
  unfold cutD
  rw [h.1, h.2, List.drop_zero, Nat.sub_zero, List.take_length]
theorem we_slice {tl th : TO} (h : WE te ρ fun d ρ1 => WO tl ρ1 fun lo ρ2 => WO th ρ2 fun hi ρ3 => ∃ ds, d = .tup ds ∧ Q (.tup (cutD ds lo hi)) ρ3) : WE (tSl (rSlA K) te tl th) ρ Q := fun σ F H E Qc k => by
  refine h σ F H E _ fun d ρ1 x F1 H1 h1 E1 T1 i1 => ?_
  refine h1 σ F1 H1 E1 _ fun lo ρ2 F2 H2 h2 E2 T2 => ?_
  refine h2 σ F2 H2 E2 _ fun hi ρ3 F3 H3 ⟨ds, e, h3⟩ E3 T3 => ?_
  subst e
  have i3 := (i1.mono T2.st.fx).mono T3.st.fx
  obtain ⟨a, vs, rfl, g1, g2⟩ := i3
  have T4 := (T1.trans T2).trans T3
  refine ⟨a, vs, rfl, SqT.of (E3.ex _ _ g1), fun z => ?_, fun z p hp => ?_⟩
  · rw [g2.length] at z
    rw [cutD_whole z] at h3
    exact k _ ρ3 _ F3 H3 h3 E3 T4 ⟨a, vs, rfl, g1, g2⟩
  · have g := Gr.new E3.ex hp (o := .tup (cutV vs lo hi))
    exact k _ ρ3 _ _ _ h3 (E3.step g) (T4.trans g.tr) ⟨p, _, rfl, upd_same, (g2.cut lo hi).mono g.1.fx⟩
theorem we_revT (h : WE te ρ fun d ρ1 => ∃ ds, d = .tup ds ∧ Q (.tup ds.reverse) ρ1) : WE (tRevT K te) ρ Q := fun σ F H E Qc k => by
  refine h σ F H E _ fun d ρ1 x F1 H1 ⟨ds, e, h1⟩ E1 T1 i1 => ?_
  subst e
  obtain ⟨a, vs, rfl, g1, g2⟩ := i1
  refine ⟨a, vs, rfl, SqT.of (E1.ex _ _ g1), fun p hp => ?_⟩
  have g := Gr.new E1.ex hp (o := .tup vs.reverse)
  exact k _ ρ1 _ _ _ h1 (E1.step g) (T1.trans g.tr) ⟨p, _, rfl, upd_same, g2.reverse.mono g.1.fx⟩
theorem rgV_is (F : Hp) (n : Nat) : IsL F (rgD n) (rgV 0 (n : Int)) := by
  have e1 : rgD n = ((List.range n).map fun i : Nat => (i : Int)).map D.int := by unfold rgD; rw [List.map_map]; rfl
  have e2 : rgV 0 (n : Int) = ((List.range n).map fun i : Nat => (i : Int)).map V.int := by
    unfold rgV
    rw [List.map_map]
    have : ((n : Int) - 0).toNat = n := by omega
    rw [this]
    apply List.map_congr_left
    intro a _
    show V.int (0 + (a : Int)) = V.int (a : Int)
    rw [Int.zero_add]
  rw [e1, e2]
  exact IsL.ints _
/-- list(range(n)), as data, as an owned list -/
theorem we_listRg (h : WE te ρ fun d ρ1 => ∃ n : Nat, d = .int (n : Int) ∧ n ≤ 100000 ∧ Q (.lst (rgD n)) ρ1) : WE (tLstRg (tRg1 te)) ρ Q := fun σ F H E Qc k => by
  refine h σ F H E _ fun d ρ1 x F1 H1 ⟨n, e, hn, h1⟩ E1 T1 i1 => ?_
  subst e
  refine ⟨n, i1, RgOk.of_le (Int.le_refl 0) (by omega) (by omega) (by omega), fun p hp => ?_⟩
  have g := Gr.new E1.ex hp (o := .lst (rgV 0 (n : Int)))
  exact k _ ρ1 _ _ _ h1 (E1.step g) (T1.trans g.tr) ⟨p, _, rfl, upd_same, rgV_is _ n⟩
theorem Env.newOwn {F H : Hp} {σ : St} (E : Env F H σ ρ) {p : Addr} {o : HO} (hp : H p = none) : Env F (upd H p o) σ ρ ∧ ¬ Own ρ p ∧ F p = none :=
  have hn : ¬ Own ρ p := fun z => E.own_some z hp
  have hf := E.ex.back hp
  ⟨E.put hn hf, hn, hf⟩
theorem wc_listRg {Qc' : Cell → Rho → Prop} (h : WE te ρ fun d ρ1 => ∃ n : Nat, d = .int (n : Int) ∧ n ≤ 100000 ∧ ∀ p, Qc' (.ol p (rgD n)) ρ1) : WC (tLstRg (tRg1 te)) ρ Qc' := fun σ F H E Qc k => by
  refine h σ F H E _ fun d ρ1 x F1 H1 ⟨n, e, hn, h1⟩ E1 T1 i1 => ?_
  subst e
  refine ⟨n, i1, RgOk.of_le (Int.le_refl 0) (by omega) (by omega) (by omega), fun p hp => ?_⟩
  obtain ⟨E2, hno, hf⟩ := E1.newOwn (o := .lst (rgV 0 (n : Int))) hp
  have hb := (T1.none_back hp).symm
  refine k _ ρ1 _ F1 _ (h1 p) E2 (T1.put hb) ⟨rfl, hf, _, upd_same, rgV_is _ n⟩ fun q hq => ?_
  cases hq
  exact ⟨hno, hb.symm⟩
theorem wc_lst {ta : TA} {Qc' : Cell → Rho → Prop} (h : WA ta ρ fun ds ρ1 => ds.length ≤ 100000 ∧ ∀ p, Qc' (.ol p ds) ρ1) : WC (tLst ta) ρ Qc' := fun σ F H E Qc k => by
  refine h σ F H E _ fun ds ρ1 xs F1 H1 h1 E1 T1 i1 => ?_
  refine ⟨by rw [i1.length]; exact Nat.le_trans h1.1 (by decide), fun p hp => ?_⟩
  obtain ⟨E2, hno, hf⟩ := E1.newOwn (o := .lst xs) hp
  have hb := (T1.none_back hp).symm
  refine k _ ρ1 _ F1 _ (h1.2 p) E2 (T1.put hb) ⟨rfl, hf, _, upd_same, i1⟩ fun q hq => ?_
  cases hq
  exact ⟨hno, hb.symm⟩

/-! ### owned lists -/
theorem Own.at {ρ : Rho} {i : Nat} {c : Cell} {p : Addr} (h : ρ[i]? = some (some c)) (ho : c.own = some p) : Own ρ p := ⟨i, c, h, ho⟩
/-- the object of a slot's cell is written -/
theorem Env.write {F H : Hp} {σ : St} {ρ : Rho} {i : Nat} {c c' : Cell} {p : Addr} {o : HO} (E : Env F H σ ρ) (h : ρ[i]? = some (some c)) (ho : c.own = some p) (ho' : c'.own = some p) (hc : CellOk F (upd H p o) (.ref p) c') : Env F (upd H p o) σ (ρ.set i (some c')) := by
  obtain ⟨v, h1, h2⟩ := E.at_ i c h
  obtain ⟨f0, rfl, hn⟩ := h2.own_none ho
  have hl : i < ρ.length := (List.getElem?_eq_some_iff.mp h).1
  have E0 := E.forget i
  have nO : ¬ Own (ρ.set i none) p := fun ⟨j, cj, g1, g2⟩ => by
    by_cases e : i = j
    · subst e; rw [List.getElem?_set_self hl] at g1; cases g1
    · rw [List.getElem?_set_ne e] at g1
      exact e (E.nd i j c cj p h g1 ho g2)
  have E1 := (E0.put (o := o) nO f0).set i (c := c') (v := .ref p) hc fun q hq => by rw [ho'] at hq; cases hq; exact nO
  have eσ : σ.set i (some (.ref p)) = σ := by
    apply List.ext_getElem?
    intro j
    by_cases e : i = j
    · subst e
      rw [List.getElem?_set_self (by rw [E.len]; exact hl), h1]
    · rw [List.getElem?_set_ne e]
  rw [eσ, List.set_set] at E1
  exact E1
theorem Tr.write {ρ ρ1 : Rho} {F H F' H' : Hp} {i : Nat} {c c' : Cell} {p : Addr} {o : HO} (T : Tr ρ F H ρ1 F' H') (h : ρ1[i]? = some (some c)) (ho : c.own = some p) (ho' : c'.own = some p) : Tr ρ F H (ρ1.set i (some c')) F' (upd H' p o) := by
  have hb := T.sub p ⟨i, c, h, ho⟩
  have T2 := T.put (o := o) hb.symm
  refine ⟨T2.st, fun a ha => ?_⟩
  rcases ha.set with z | ⟨c2, e, z⟩
  · exact T.sub a z
  · cases e
    rw [ho'] at z; cases z
    exact hb
theorem ws_app {i : Nat} {p : Addr} {ds0 : List D} (hi : ρ[i]? = some (some (.ol p ds0))) (h : WE te ρ fun d ρ1 => ∃ (ds : List D), ρ1[i]? = some (some (.ol p ds)) ∧ ds.length < 100000 ∧ N (ρ1.set i (some (.ol p (ds ++ [d]))))) : WS (tDrop (tBM K "list" rAppend (tVar i) (tCons te tNil))) ρ N R := fun σ F H E Dc q1 q2 => by
  obtain ⟨v, g1, rfl, g3, us, g4, g5⟩ := E.at_ i _ hi
  refine ⟨_, g1, .inl ⟨rfl, us, SqL.of g4⟩, ?_⟩
  refine h σ F H E _ fun d ρ1 y F1 H1 ⟨ds, e1, hz, hN⟩ E1 T1 iy => ?_
  obtain ⟨v', k1, rfl, k3, ws, k4, k5⟩ := E1.at_ i _ e1
  refine ⟨p, ws, y, rfl, rfl, k4, by rw [k5.length]; exact Nat.lt_of_lt_of_le hz (by decide), ?_⟩
  exact q1 _ σ F1 _ hN (E1.write e1 rfl rfl ⟨rfl, k3, _, upd_same, k5.append (IsL.one iy)⟩) (T1.write e1 rfl rfl)
theorem we_popAt {i : Nat} {p : Addr} {ds0 : List D} (hi : ρ[i]? = some (some (.ol p ds0))) (h : WE te ρ fun di ρ1 => ∃ (ds : List D) (k : Nat) (d : D), di = .int (k : Int) ∧ ρ1[i]? = some (some (.ol p ds)) ∧ ds[k]? = some d ∧ ds.length < 100000 ∧ Q d (ρ1.set i (some (.ol p (ds.eraseIdx k))))) : WE (tBM K "list" rPopAt (tVar i) (tCons te tNil)) ρ Q := fun σ F H E Qc q => by
  obtain ⟨v, g1, rfl, g3, us, g4, g5⟩ := E.at_ i _ hi
  refine ⟨_, g1, .inl ⟨rfl, us, SqL.of g4⟩, ?_⟩
  refine h σ F H E _ fun di ρ1 y F1 H1 ⟨ds, k, d, e0, e1, e2, hz, hQ⟩ E1 T1 iy => ?_
  subst e0
  have iy : y = .int (k : Int) := iy
  subst iy
  obtain ⟨v', k1, rfl, k3, ws, k4, k5⟩ := E1.at_ i _ e1
  obtain ⟨x, x1, x2⟩ := k5.get e2
  have hk : k < ws.length := (List.getElem?_eq_some_iff.mp x1).1
  have hw : ws.length < 100000 := by rw [k5.length]; exact hz
  have hs : seqIndex? (k : Int) ws.length = some k := by
    have := PySem.StrLaws.seqIndex_nonneg (i := (k : Int)) (n := ws.length) (by omega) (by omega)
    rw [this]; congr 1
  refine ⟨p, ws, k, k, x, rfl, rfl, k4, by omega, by omega, hs, x1, ?_⟩
  exact q d _ x F1 _ hQ (E1.write e1 rfl rfl ⟨rfl, k3, _, upd_same, k5.eraseIdx k⟩) (T1.write e1 rfl rfl) x2
theorem we_lenOl {i : Nat} {p : Addr} {ds : List D} (hi : ρ[i]? = some (some (.ol p ds))) (q : Q (.int (ds.length : Int)) ρ) : WE (tCB (fun xs H Q => ∃ p ys, xs = [V.ref p] ∧ (SqL K H p ys ∨ SqT K H p ys) ∧ Q (.int ys.length) H) (tCons (tVar i) tNil)) ρ Q := fun σ F H E Qc k => by
  obtain ⟨v, g1, rfl, g3, us, g4, g5⟩ := E.at_ i _ hi
  exact ⟨_, g1, p, us, rfl, .inl (SqL.of g4), k _ ρ _ F H q E Tr.refl (by show V.int _ = V.int _; rw [g5.length])⟩
theorem we_notInOl {i : Nat} (h : WE ta ρ fun d ρ1 => ∃ (p : Addr) (x : Int) (ns : List Int), d = .int x ∧ ρ1[i]? = some (some (.ol p (ns.map .int))) ∧ Q (.bl (!decide (x ∈ ns))) ρ1) : WE (tOp (rIn K true) ta (tVar i)) ρ Q := fun σ F H E Qc k => by
  refine h σ F H E _ fun d ρ1 y F1 H1 ⟨p, x, ns, e, hi, hq⟩ E1 T1 iy => ?_
  subst e
  have iy : y = .int x := iy
  subst iy
  obtain ⟨v, g1, rfl, g3, us, g4, g5⟩ := E1.at_ i _ hi
  rw [g5.ints_eq] at g4
  refine ⟨_, g1, p, _, rfl, .inl (SqL.of g4), rfl, flat_ints ns, k _ ρ1 _ F1 H1 hq E1 T1 ?_⟩
  show V.bl (!inV _ _) = _
  rw [inV_ints]
/-- an item of an owned list -/
theorem we_ixOl {i : Nat} {p : Addr} {ds : List D} {j : Int} {d : D} (hi : ρ[i]? = some (some (.ol p ds))) (ha : atI ds j = some d) (q : Q d ρ) : WE (tOp (rIx K) (tVar i) (tC (.int j))) ρ Q := fun σ F H E Qc k => by
  obtain ⟨v, g1, rfl, g3, us, g4, g5⟩ := E.at_ i _ hi
  have ha' : (ixN ds.length j).bind (fun j => ds[j]?) = some d := ha
  cases hj : ixN ds.length j with
  | none => rw [hj] at ha'; cases ha'
  | some n =>
    rw [hj] at ha'
    obtain ⟨x, x1, x2⟩ := g5.get (show ds[n]? = some d from ha')
    exact ⟨_, g1, .inl ⟨p, us, j, x, rfl, rfl, SqL.of g4, by show (ixN us.length j).bind (fun j => us[j]?) = some x; rw [g5.length, hj]; exact x1, k d ρ x F H q E Tr.refl x2⟩⟩
/-- o[j] = e, o an owned list -/
theorem ws_setOl {i : Nat} {p : Addr} {j : Int} (h : WE te ρ fun d ρ1 => ∃ (ds : List D) (n : Nat), ρ1[i]? = some (some (.ol p ds)) ∧ ixN ds.length j = some n ∧ N (ρ1.set i (some (.ol p (ds.set n d))))) : WS (tAsg te (gSub (tVar i) (tC (.int j)) rSetL)) ρ N R := fun σ F H E Dc q1 q2 => by
  refine h σ F H E _ fun d ρ1 y F1 H1 ⟨ds, n, e1, hn, hN⟩ E1 T1 iy => ?_
  obtain ⟨v, g1, rfl, g3, us, g4, g5⟩ := E1.at_ i _ e1
  refine ⟨_, g1, p, us, j, n, rfl, rfl, g4, by rw [g5.length]; exact hn, ?_⟩
  refine q1 _ σ F1 _ hN (E1.write e1 rfl rfl ⟨rfl, g3, _, upd_same, ?_⟩) (T1.write e1 rfl rfl)
  have key : ∀ (ds : List D) (us : List V) (n : Nat), IsL F1 ds us → IsL F1 (ds.set n d) (us.set n y) := by
    intro ds
    induction ds with
    | nil => intro us n h; have h : us = [] := h; subst h; exact rfl
    | cons d0 ds ih =>
      intro us n h
      obtain ⟨v0, r, rfl, a, b⟩ := h
      cases n with
      | zero => exact ⟨y, r, rfl, iy, b⟩
      | succ n => exact ⟨v0, r.set n y, rfl, a, ih r n b⟩
  exact key ds us n g5
/-- an owned list is data from now on -/
theorem Env.freezeOl {F H : Hp} {σ : St} {ρ : Rho} {i : Nat} {p : Addr} {ds : List D} (E : Env F H σ ρ) (hi : ρ[i]? = some (some (.ol p ds))) : ∃ F', Env F' H σ (ρ.set i (some (.imm (.lst ds)))) ∧ Tr ρ F H (ρ.set i (some (.imm (.lst ds)))) F' H := by
  obtain ⟨v, g1, rfl, g3, us, g4, g5⟩ := E.at_ i _ hi
  have hl : i < ρ.length := (List.getElem?_eq_some_iff.mp hi).1
  have nO : ¬ Own (ρ.set i none) p := fun ⟨j, cj, k1, k2⟩ => by
    by_cases e : i = j
    · subst e; rw [List.getElem?_set_self hl] at k1; cases k1
    · rw [List.getElem?_set_ne e] at k1
      exact e (E.nd i j _ cj p hi k1 rfl k2)
  have E1 := (E.forget i).freeze g4 nO g3
  have E2 := E1.set i (c := .imm (.lst ds)) (v := .ref p) ⟨p, us, rfl, upd_same, g5.mono (Ex.new g3)⟩ fun q hq => by cases hq
  have eσ : σ.set i (some (.ref p)) = σ := by
    apply List.ext_getElem?
    intro j
    by_cases e : i = j
    · subst e
      rw [List.getElem?_set_self (by rw [E.len]; exact hl), g1]
    · rw [List.getElem?_set_ne e]
  rw [eσ, List.set_set] at E2
  refine ⟨_, E2, (Tr.refl.freeze (.inr ⟨i, _, hi, rfl⟩) g3).st, fun a ha => ?_⟩
  rcases ha.set with z | ⟨c, e, z⟩
  · exact .inl z
  · cases e; cases z
theorem ws_freeze {i : Nat} {p : Addr} {ds : List D} (hi : ρ[i]? = some (some (.ol p ds))) (h : WS ts (ρ.set i (some (.imm (.lst ds)))) N R) : WS ts ρ N R := fun σ F H E Dc q1 q2 => by
  obtain ⟨F', E', T'⟩ := E.freezeOl hi
  refine h σ F' H E' Dc (fun ρ2 σ2 F2 H2 h2 E2 T2 => q1 ρ2 σ2 F2 H2 h2 E2 (T'.trans T2)) fun c ρ2 σ2 v F2 H2 h2 E2 T2 hc ho => q2 c ρ2 σ2 v F2 H2 h2 E2 (T'.trans T2) hc fun p hp => ⟨(ho p hp).1, ?_⟩
  rcases (ho p hp).2 with z | z
  · exact T'.sub p z
  · exact T'.none_back z
/-- return of an owned variable -/
theorem wc_varOwn {i : Nat} {c : Cell} {Qc' : Cell → Rho → Prop} (hi : ρ[i]? = some (some c)) (q : Qc' c (ρ.set i none)) : WC (tVar i) ρ Qc' := fun σ F H E Qc k => by
  obtain ⟨v, g1, g2⟩ := E.at_ i _ hi
  have hl : i < ρ.length := (List.getElem?_eq_some_iff.mp hi).1
  have sub : ∀ a, Own (ρ.set i none) a → Own ρ a := fun a ha => by
    rcases ha.set with z | ⟨c2, e, z⟩
    · exact z
    · cases e
  refine ⟨v, g1, k c _ v F H q (E.forget i) ⟨Step.refl, fun a ha => .inl (sub a ha)⟩ g2 fun p hp => ⟨fun ⟨j, cj, k1, k2⟩ => ?_, .inl ⟨i, c, hi, hp⟩⟩⟩
  by_cases e : i = j
  · subst e; rw [List.getElem?_set_self hl] at k1; cases k1
  · rw [List.getElem?_set_ne e] at k1
    exact e (E.nd i j _ cj p hi k1 hp k2)

/-! ### calls -/
/-- a def over data: T, a predicate transformer -/
def spP (T : List D → (Cell → Prop) → Prop) : Sp := fun vs H Qc _ => ∃ F ds Q, Ex F H ∧ IsL F ds vs ∧ T ds Q ∧ ∀ c v F' H', Q c → Gr F H F' H' → CellOk F' H' v c → (∀ p, c.own = some p → H p = none) → Qc v H'
theorem wc_callP {T : List D → (Cell → Prop) → Prop} {ta : TA} {Qc' : Cell → Rho → Prop} (h : WA ta ρ fun ds ρ1 => T ds fun c => Qc' c ρ1) : WC (tCall (spP T) [] E0 ta) ρ Qc' := fun σ F H E Qc k => by
  refine h σ F H E _ fun ds ρ1 xs F1 H1 h1 E1 T1 i1 => ?_
  refine ⟨F1, ds, _, E1.ex, by rw [List.append_nil]; exact i1, h1, fun c v F' H' hq g hc ho => k c ρ1 v F' H' hq (E1.step g) (T1.trans g.tr) hc fun p hp => ⟨fun z => E1.own_some z (ho p hp), T1.none_back (ho p hp)⟩⟩
theorem we_callP {T : List D → (Cell → Prop) → Prop} {ta : TA} (h : WA ta ρ fun ds ρ1 => T ds fun c => ∃ d, c = .imm d ∧ Q d ρ1) : WE (tCall (spP T) [] E0 ta) ρ Q := fun σ F H E Qc k => wc_callP h σ F H E Qc fun c ρ' v F' H' ⟨d, e, hq⟩ E' T' hc _ => by
  subst e
  exact k d ρ' v F' H' hq E' T' hc
/-- a def whose first argument is the stream -/
def spS (T : List D → (D → Prop) → Prop) : Sp := fun vs H Qc _ => ∃ F p us ds Q, vs = .ref p :: us ∧ Ex F H ∧ F p = none ∧ StAt F H p ∧ IsL F ds us ∧ T ds Q ∧ ∀ d v F' H', Q d → Step (fun a => a = p) F H F' H' → Ex F' H' → F' p = none → StAt F' H' p → Is F' d v → Qc v H'
theorem Env.stepS {F H F' H' : Hp} {σ : St} {ρ : Rho} {i : Nat} {p : Addr} (E : Env F H σ ρ) (hi : ρ[i]? = some (some (.st p))) (s : Step (fun a => a = p) F H F' H') (e : Ex F' H') (f : F' p = none) (hs : StAt F' H' p) : Env F' H' σ ρ := ⟨E.len, e, fun j c h => by
    obtain ⟨v, h1, h2⟩ := E.at_ j c h
    by_cases hj : j = i
    · subst hj
      rw [hi] at h
      have e : Cell.st p = c := Option.some.inj (Option.some.inj h)
      subst e
      exact ⟨v, h1, h2.1, f, hs⟩
    · refine ⟨v, h1, h2.mono s.fx fun q hq => ?_⟩
      have ne : q ≠ p := fun z => hj (E.nd j i c _ q h hi hq (by rw [z]; rfl))
      obtain ⟨a, _, o, g, b⟩ := h2.own_none hq
      obtain ⟨e1, e2⟩ := s.keep q o g ne
      exact ⟨e1.trans g.symm, (e2 b).trans a⟩, E.nd⟩
theorem we_callS {T : List D → (D → Prop) → Prop} {tr : TA} {i : Nat} {p : Addr} (hi : ρ[i]? = some (some (.st p))) (h : WA tr ρ fun ds ρ1 => ρ1[i]? = some (some (.st p)) ∧ T ds fun d => Q d ρ1) : WE (tCall (spS T) [] E0 (tCons (tVar i) tr)) ρ Q := fun σ F H E Qc k => by
  obtain ⟨v, g1, rfl, g3, g4⟩ := E.at_ i _ hi
  refine ⟨_, g1, ?_⟩
  refine h σ F H E _ fun ds ρ1 xs F1 H1 ⟨h0, h1⟩ E1 T1 i1 => ?_
  obtain ⟨v', k1, e', k3, k4⟩ := E1.at_ i _ h0
  refine ⟨F1, p, xs, ds, _, by rw [List.append_nil], E1.ex, k3, k4, i1, h1, fun d v F' H' hq s e f hs hd => k d ρ1 v F' H' hq (E1.stepS h0 s e f hs) (T1.trans ⟨s.mono fun a z => by rw [z]; exact ⟨i, _, h0, rfl⟩, fun a z => .inl z⟩) hd⟩

/-! a def's body -/
def rho0 (n : Nat) (ds : List D) : Rho := ds.map (fun d => some (.imm d)) ++ List.replicate (n - ds.length) none
theorem rho0_get {n : Nat} {ds : List D} {i : Nat} {c : Cell} (h : (rho0 n ds)[i]? = some (some c)) : ∃ d, ds[i]? = some d ∧ c = .imm d := by
  unfold rho0 at h
  by_cases hi : i < ds.length
  · rw [List.getElem?_append_left (by rw [List.length_map]; exact hi), List.getElem?_map] at h
    cases e : ds[i]? with
    | none => rw [e] at h; cases h
    | some d =>
      rw [e] at h
      exact ⟨d, rfl, (Option.some.inj (Option.some.inj h)).symm⟩
  · rw [List.getElem?_append_right (by rw [List.length_map]; omega), List.getElem?_replicate] at h
    split at h <;> cases h
theorem env_start {F H : Hp} {N : List Str} {ds : List D} {vs : List V} (e : Ex F H) (h : IsL F ds vs) : Env F H (L2.start N vs) (rho0 N.length ds) := by
  have hl := h.length
  refine ⟨by unfold L2.start rho0; simp [hl], e, fun i c hc => ?_, fun i j ci cj p h1 h2 o1 o2 => ?_⟩
  · obtain ⟨d, e1, rfl⟩ := rho0_get hc
    obtain ⟨v, g1, g2⟩ := h.get e1
    refine ⟨v, ?_, g2⟩
    have hi : i < vs.length := (List.getElem?_eq_some_iff.mp g1).1
    unfold L2.start
    rw [List.getElem?_append_left (by rw [List.length_map]; exact hi), List.getElem?_map, g1]
    rfl
  · obtain ⟨d, _, rfl⟩ := rho0_get h1
    cases o1
theorem own_rho0 {n : Nat} {ds : List D} {a : Addr} : ¬ Own (rho0 n ds) a := fun ⟨i, c, h, ho⟩ => by
  obtain ⟨d, _, rfl⟩ := rho0_get h
  cases ho
theorem body_P {T : List D → (Cell → Prop) → Prop} {N : List Str} {vs : List V} {H : Hp} {Qc : VK} {E : XK} {t : TS} (h : spP T vs H Qc E) (w : ∀ ds Q, T ds Q → WS t (rho0 N.length ds) (fun _ => Q (.imm .non)) (fun c _ => Q c)) : t { nx := fun _ H' => Qc .non H', rt := Qc } (L2.start N vs) H := by
  obtain ⟨F, ds, Q, e, hi, hT, k⟩ := h
  have g : ∀ {ρ' F' H'}, Tr (rho0 N.length ds) F H ρ' F' H' → Ex F' H' → Gr F H F' H' := fun T e => ⟨T.st.mono fun a z => absurd z own_rho0, e⟩
  refine w ds Q hT (L2.start N vs) F H (env_start e hi) _ (fun ρ' σ' F' H' hq E' T' => k (.imm .non) _ F' H' hq (g T' E'.ex) rfl fun p hp => by cases hp) fun c ρ' σ' v F' H' hq E' T' hc ho => k c v F' H' hq (g T' E'.ex) hc fun p hp => (ho p hp).2.resolve_left own_rho0
/-- the stream's cell, or its list laid open -/
def StC (p : Addr) (c : Cell) : Prop := c = .st p ∨ ∃ (cells : List Int) (cur k : Int), c = .ol p [.lst (cells.map .int), .int cur, .int k] ∧ 0 ≤ cur ∧ 0 ≤ k
def rhoS (n : Nat) (p : Addr) (ds : List D) : Rho := some (.st p) :: rho0 (n - 1) ds
theorem rhoS_own {n : Nat} {p : Addr} {ds : List D} {a : Addr} (h : Own (rhoS n p ds) a) : a = p := by
  obtain ⟨i, c, h1, h2⟩ := h
  cases i with
  | zero =>
    have e : Cell.st p = c := Option.some.inj (Option.some.inj h1)
    subst e
    cases h2; rfl
  | succ i => exact absurd ⟨i, c, h1, h2⟩ (own_rho0 (n := n - 1) (ds := ds) (a := a))
theorem env_startS {F H : Hp} {N : List Str} {ds : List D} {vs : List V} {p : Addr} (hN : 0 < N.length) (e : Ex F H) (h : IsL F ds vs) (f : F p = none) (hs : StAt F H p) : Env F H (L2.start N (.ref p :: vs)) (rhoS N.length p ds) := by
  obtain ⟨x, N', rfl⟩ : ∃ x N', N = x :: N' := by cases N with
    | nil => simp at hN
    | cons x N' => exact ⟨x, N', rfl⟩
  have E0 := env_start (N := N') e h
  have e1 : L2.start (x :: N') (.ref p :: vs) = some (.ref p) :: L2.start N' vs := by
    unfold L2.start
    show some (V.ref p) :: (vs.map some ++ List.replicate (N'.length + 1 - (vs.length + 1)) none) = _
    rw [Nat.add_sub_add_right]
  rw [e1]
  show Env F H (some (.ref p) :: L2.start N' vs) (some (.st p) :: rho0 N'.length ds)
  refine ⟨by show (L2.start N' vs).length + 1 = (rho0 N'.length ds).length + 1; rw [E0.len], e, fun i c hc => ?_, fun i j ci cj q h1 h2 o1 o2 => ?_⟩
  · cases i with
    | zero =>
      have e : Cell.st p = c := Option.some.inj (Option.some.inj hc)
      subst e
      exact ⟨.ref p, rfl, rfl, f, hs⟩
    | succ i => exact E0.at_ i c hc
  · cases i with
    | zero =>
      cases j with
      | zero => rfl
      | succ j => exact absurd ⟨j, cj, h2, o2⟩ (own_rho0 (n := N'.length) (ds := ds) (a := q))
    | succ i => exact absurd ⟨i, ci, h1, o1⟩ (own_rho0 (n := N'.length) (ds := ds) (a := q))
theorem body_S {T : List D → (D → Prop) → Prop} {N : List Str} {vs : List V} {H : Hp} {Qc : VK} {E : XK} {t : TS} (hN : 0 < N.length) (h : spS T vs H Qc E) (w : ∀ p ds Q, T ds Q → WS t (rhoS N.length p ds) (fun _ => False) (fun c ρ' => ∃ d, c = .imm d ∧ Q d ∧ ∃ c0, ρ'[0]? = some (some c0) ∧ StC p c0)) : t { nx := fun _ H' => Qc .non H', rt := Qc } (L2.start N vs) H := by
  obtain ⟨F, p, us, ds, Q, rfl, e, f, hs, hi, hT, k⟩ := h
  refine w p ds Q hT (L2.start N (.ref p :: us)) F H (env_startS hN e hi f hs) _ (fun _ _ _ _ z => z.elim) fun c ρ' σ' v F' H' ⟨d, e1, hq, c0, h0, hc0⟩ E' T' hc ho => ?_
  subst e1
  have s : Step (fun a => a = p) F H F' H' := T'.st.mono fun a z => rhoS_own z
  obtain ⟨v0, g1, g2⟩ := E'.at_ 0 _ h0
  rcases hc0 with rfl | ⟨cells, cur, kk, rfl, a, b⟩
  · exact k d v F' H' hq s E'.ex g2.2.1 g2.2.2 hc
  · obtain ⟨_, g3, ws, g4, g5⟩ := g2
    obtain ⟨x1, r1, rfl, ⟨c, cs, rfl, c1, c2⟩, g5⟩ := g5
    obtain ⟨x2, r2, rfl, y2, g5⟩ := g5
    obtain ⟨x3, r3, rfl, y3, g5⟩ := g5
    have y2 : x2 = .int cur := y2
    have y3 : x3 = .int kk := y3
    have g5 : r3 = [] := g5
    subst y2 y3 g5
    rw [c2.ints_eq] at c1
    exact k d v F' H' hq s E'.ex g3 ⟨c, cells, cur, kk, g4, c1, a, b⟩ hc
/-- the stream's list is laid open -/
theorem ws_openSt {i : Nat} {p : Addr} (hi : ρ[i]? = some (some (.st p))) (h : ∀ (cells : List Int) (cur k : Int), 0 ≤ cur → 0 ≤ k → WS ts (ρ.set i (some (.ol p [.lst (cells.map .int), .int cur, .int k]))) N R) : WS ts ρ N R := fun σ F H E Dc q1 q2 => by
  obtain ⟨v, g1, rfl, g3, c, cells, cur, k, g4, g5, g6, g7⟩ := E.at_ i _ hi
  have hl : i < ρ.length := (List.getElem?_eq_some_iff.mp hi).1
  have eH : upd H p (.lst [.ref c, .int cur, .int k]) = H := by
    funext a
    by_cases e : a = p
    · subst e; rw [upd_same, g4]
    · rw [upd_ne e]
  have E1 := E.write (o := .lst [.ref c, .int cur, .int k]) (c' := .ol p [.lst (cells.map .int), .int cur, .int k]) hi rfl rfl ⟨rfl, g3, _, upd_same, ⟨.ref c, _, rfl, ⟨c, _, rfl, g5, IsL.ints cells⟩, ⟨.int cur, _, rfl, rfl, ⟨.int k, _, rfl, rfl, rfl⟩⟩⟩⟩
  rw [eH] at E1
  have sub : ∀ a, Own (ρ.set i (some (.ol p [.lst (cells.map .int), .int cur, .int k]))) a → Own ρ a := fun a ha => by
    rcases ha.set with z | ⟨c2, e, z⟩
    · exact z
    · cases e; cases z; exact ⟨i, _, hi, rfl⟩
  have T0 : Tr ρ F H (ρ.set i (some (.ol p [.lst (cells.map .int), .int cur, .int k]))) F H := ⟨Step.refl, fun a z => .inl (sub a z)⟩
  refine h cells cur k g6 g7 σ F H E1 Dc (fun ρ2 σ2 F2 H2 h2 E2 T2 => q1 ρ2 σ2 F2 H2 h2 E2 (T0.trans T2)) fun c ρ2 σ2 v F2 H2 h2 E2 T2 hc ho => q2 c ρ2 σ2 v F2 H2 h2 E2 (T0.trans T2) hc fun p hp => ⟨(ho p hp).1, ?_⟩
  rcases (ho p hp).2 with z | z
  · exact .inl (sub p z)
  · exact .inr z
end
end K47

set_option Elab.async false
set_option linter.all false
set_option maxRecDepth 100000
set_option maxHeartbeats 4000000
/-! The logic's owned dicts, locked loops, comprehensions of two clauses. -/
namespace K47
open PySem L2

/-! ### lookups -/
def lk {κ : Type} [DecidableEq κ] (kvs : List (κ × D)) (k : κ) : Option D := (kvs.find? fun q => decide (q.1 = k)).map (·.2)
section
variable {κ : Type} [DecidableEq κ]
theorem lk_nil {k : κ} : lk ([] : List (κ × D)) k = none := rfl
theorem lk_pos {p : κ × D} {r : List (κ × D)} {k : κ} (e : p.1 = k) : lk (p :: r) k = some p.2 := by simp [lk, List.find?_cons, e]
theorem lk_neg {p : κ × D} {r : List (κ × D)} {k : κ} (e : ¬ p.1 = k) : lk (p :: r) k = lk r k := by simp [lk, List.find?_cons, e]
theorem lk_none : ∀ {kvs : List (κ × D)} {k : κ}, lk kvs k = none ↔ k ∉ kvs.map (·.1)
  | [], k => by simp [lk_nil]
  | p :: r, k => by
    by_cases e : p.1 = k
    · rw [lk_pos e]; simp [e]
    · have e' : ¬ k = p.1 := fun z => e z.symm
      rw [lk_neg e, lk_none (kvs := r)]; simp [e']
theorem lk_append_none {a b : List (κ × D)} {k : κ} (h : lk a k = none) : lk (a ++ b) k = lk b k := by
  induction a with
  | nil => rfl
  | cons p r ih =>
    by_cases e : p.1 = k
    · rw [lk_pos e] at h; cases h
    · rw [lk_neg e] at h
      rw [List.cons_append, lk_neg e, ih h]
theorem lk_append_some {a b : List (κ × D)} {k : κ} {d : D} (h : lk a k = some d) : lk (a ++ b) k = some d := by
  induction a with
  | nil => cases h
  | cons p r ih =>
    by_cases e : p.1 = k
    · rw [lk_pos e] at h
      rw [List.cons_append, lk_pos e, h]
    · rw [lk_neg e] at h
      rw [List.cons_append, lk_neg e, ih h]
theorem lk_mem : ∀ {kvs : List (κ × D)} {k : κ} {d : D}, lk kvs k = some d → (k, d) ∈ kvs
  | [], k, d, h => by cases h
  | p :: r, k, d, h => by
    by_cases e : p.1 = k
    · rw [lk_pos e] at h
      obtain ⟨a, b⟩ := p
      cases h; cases e
      exact List.mem_cons_self ..
    · rw [lk_neg e] at h
      exact List.mem_cons_of_mem _ (lk_mem h)
theorem lk_of_mem : ∀ {kvs : List (κ × D)} {k : κ} {d : D}, (kvs.map (·.1)).Nodup → (k, d) ∈ kvs → lk kvs k = some d
  | p :: r, k, d, hn, h => by
    have hn : (p.1 :: r.map (·.1)).Nodup := hn
    obtain ⟨h1, h2⟩ := List.nodup_cons.mp hn
    rcases List.mem_cons.mp h with e | h
    · subst e; exact lk_pos rfl
    · have e : ¬ p.1 = k := fun z => h1 (List.mem_map.mpr ⟨(k, d), h, z.symm⟩)
      rw [lk_neg e]
      exact lk_of_mem h2 h
end
theorem pk_inj {a b : Int × Int} (e : pk a = pk b) : a = b := by
  obtain ⟨a1, a2⟩ := a
  obtain ⟨b1, b2⟩ := b
  have e : [Sum.inl a1, Sum.inl a2] = ([Sum.inl b1, Sum.inl b2] : List Key) := e
  injection e with e1 e2
  injection e2 with e2 _
  rw [Sum.inl.inj e1, Sum.inl.inj e2]
theorem KvI.val {F : Hp} : ∀ {kvs : List (Int × D)} {kv : List (Key × V)}, KvI F kvs kv → ∀ k, (lk kvs k = none ∧ valV kv (Sum.inl k) = none) ∨ ∃ d v, lk kvs k = some d ∧ valV kv (Sum.inl k) = some v ∧ Is F d v := fun {kvs kv} h k => by
  unfold KvI at h
  induction h with
  | nil => exact .inl ⟨rfl, rfl⟩
  | @cons p q ps qs r t ih =>
    obtain ⟨r1, r2⟩ := r
    by_cases e : p.1 = k
    · exact .inr ⟨p.2, q.2, lk_pos e, valV_pos (r1.trans (by rw [e])), r2⟩
    · have e' : ¬ q.1 = Sum.inl k := fun z => e (Sum.inl.inj (r1.symm.trans z))
      rw [lk_neg e, valV_neg e']
      exact ih
theorem KvP.val {F : Hp} : ∀ {kvs : List ((Int × Int) × D)} {kv : List (List Key × V)}, KvP F kvs kv → ∀ k, (lk kvs k = none ∧ valV kv (pk k) = none) ∨ ∃ d v, lk kvs k = some d ∧ valV kv (pk k) = some v ∧ Is F d v := fun {kvs kv} h k => by
  unfold KvP at h
  induction h with
  | nil => exact .inl ⟨rfl, rfl⟩
  | @cons p q ps qs r t ih =>
    obtain ⟨r1, r2⟩ := r
    by_cases e : p.1 = k
    · exact .inr ⟨p.2, q.2, lk_pos e, valV_pos (r1.trans (by rw [e])), r2⟩
    · have e' : ¬ q.1 = pk k := fun z => e (pk_inj (r1.symm.trans z))
      rw [lk_neg e, valV_neg e']
      exact ih
theorem Paired.snoc {α β : Type} {G : α → β → Prop} {l₁ : List α} {l₂ : List β} {a : α} {b : β} (h : Paired G l₁ l₂) (g : G a b) : Paired G (l₁ ++ [a]) (l₂ ++ [b]) := by
  induction h with
  | nil => exact .cons g .nil
  | cons r t ih => exact .cons r ih
theorem Paired.len {α β : Type} {G : α → β → Prop} {l₁ : List α} {l₂ : List β} (h : Paired G l₁ l₂) : l₂.length = l₁.length := (Paired.length h).symm
theorem KvI.put {F : Hp} {kvs : List (Int × D)} {kv : List (Key × V)} {k : Int} {d : D} {v : V} (h : KvI F kvs kv) (hn : lk kvs k = none) (hd : Is F d v) : KvI F (kvs ++ [(k, d)]) (putK kv (Sum.inl k) v) := by
  rcases h.val k with ⟨_, e⟩ | ⟨d', _, e, _⟩
  · rw [putK_new v e]
    exact Paired.snoc h ⟨rfl, hd⟩
  · rw [hn] at e; cases e
theorem KvP.put {F : Hp} {kvs : List ((Int × Int) × D)} {kv : List (List Key × V)} {k : Int × Int} {d : D} {v : V} (h : KvP F kvs kv) (hn : lk kvs k = none) (hd : Is F d v) : KvP F (kvs ++ [(k, d)]) (putK kv (pk k) v) := by
  rcases h.val k with ⟨_, e⟩ | ⟨d', _, e, _⟩
  · rw [putK_new v e]
    exact Paired.snoc h ⟨rfl, hd⟩
  · rw [hn] at e; cases e
def pD (k : Int × Int) : D := .tup [.int k.1, .int k.2]
theorem Is.pk {F : Hp} {k : Int × Int} {v : V} (h : Is F (pD k) v) : ∃ b, v = .ref b ∧ F b = some (.tup ((pk k).map kV)) := by
  obtain ⟨b, vs, rfl, h1, x, r, rfl, hx, y, r2, rfl, hy, h2⟩ := h
  have hx : x = .int k.1 := hx
  have hy : y = .int k.2 := hy
  have h2 : r2 = [] := h2
  subst hx hy h2
  exact ⟨b, rfl, h1⟩

theorem KvI.keys {F : Hp} {kvs : List (Int × D)} {kv : List (Key × V)} (h : KvI F kvs kv) : kv.map (·.1) = (kvs.map (·.1)).map Sum.inl := by
  unfold KvI at h
  induction h with
  | nil => rfl
  | cons r t ih => rw [List.map_cons, List.map_cons, List.map_cons, ih, r.1]
/-- an object that is hidden from the slots -/
structure Hid (ρ : Rho) (F H : Hp) (p : Addr) (o : HO) : Prop where
  no : ¬ Own ρ p
  fr : F p = none
  at_ : H p = some o
theorem Hid.tr {ρ ρ' : Rho} {F H F' H' : Hp} {p : Addr} {o : HO} (h : Hid ρ F H p o) (ho : HO.isT o = false) (T : Tr ρ F H ρ' F' H') : Hid ρ' F' H' p o := by
  obtain ⟨e1, e2⟩ := T.st.keep p o h.at_ h.no
  have no : ¬ Own ρ' p := fun z => (T.sub p z).elim h.no fun q => by
    have := h.at_
    rw [q] at this; cases this
  exact ⟨no, (e2 ho).trans h.fr, e1⟩

section
variable {te ta tb tc tl tk tv ty tx : TE} {tt t u : TT} {ρ : Rho} {Q : D → Rho → Prop} {Qo : Cell → Rho → Prop} {N : Rho → Prop} {R : Cell → Rho → Prop} {ts t1 t2 : TS} {K : PySem.W.Frag}
theorem wc_dnewK (q : ∀ p, Qo (.dk p []) ρ) : WC tDNewK ρ Qo := fun σ F H E Qc k p hp => by
  obtain ⟨E2, hno, hf⟩ := E.newOwn (o := .dK []) hp
  refine k _ ρ _ F _ (q p) E2 (Tr.refl.put (.inl hp)) ⟨rfl, hf, [], upd_same, .nil⟩ fun q hq => ?_
  cases hq
  exact ⟨hno, .inr hp⟩
theorem wc_dispK (h : WE tk ρ fun d1 ρ1 => WE tv ρ1 fun d2 ρ2 => ∃ k : Int, d1 = .int k ∧ ∀ p, Qo (.dk p [(k, d2)]) ρ2) : WC (tDisp [(tk, tv)]) ρ Qo := fun σ F H E Qc k p hp => by
  obtain ⟨E0, hno, hf⟩ := E.newOwn (o := .dK []) hp
  have hid : Hid ρ F (upd H p (.dK [])) p (.dK []) := ⟨hno, hf, upd_same⟩
  have T0 : Tr ρ F H ρ F (upd H p (.dK [])) := Tr.refl.put (.inl hp)
  refine h σ F _ E0 _ fun d1 ρ1 x F1 H1 h1 E1 T1 i1 => ?_
  refine h1 σ F1 H1 E1 _ fun d2 ρ2 y F2 H2 ⟨n, e, h2⟩ E2 T2 i2 => ?_
  subst e
  have i1 : x = .int n := i1
  subst i1
  have hid2 := (hid.tr rfl T1).tr rfl T2
  have T3 := (T0.trans T1).trans T2
  refine ⟨hid2.at_, [(Sum.inl n, y)], rfl, by show 1 ≤ 15; decide, ?_⟩
  refine k _ ρ2 _ F2 _ (h2 p) (E2.put hid2.no hid2.fr) (T3.put (.inl hp)) ⟨rfl, hid2.fr, _, upd_same, .cons ⟨rfl, i2⟩ .nil⟩ fun q hq => ?_
  cases hq
  exact ⟨hid2.no, .inr hp⟩
theorem wc_dispT (h : WE tk ρ fun d1 ρ1 => WE tv ρ1 fun d2 ρ2 => ∃ k : Int × Int, d1 = pD k ∧ ∀ p, Qo (.dt p [(k, d2)]) ρ2) : WC (tDispT tk tv) ρ Qo := fun σ F H E Qc k p hp => by
  obtain ⟨E0, hno, hf⟩ := E.newOwn (o := .dT []) hp
  have hid : Hid ρ F (upd H p (.dT [])) p (.dT []) := ⟨hno, hf, upd_same⟩
  have T0 : Tr ρ F H ρ F (upd H p (.dT [])) := Tr.refl.put (.inl hp)
  refine h σ F _ E0 _ fun d1 ρ1 x F1 H1 h1 E1 T1 i1 => ?_
  refine h1 σ F1 H1 E1 _ fun d2 ρ2 y F2 H2 ⟨n, e, h2⟩ E2 T2 i2 => ?_
  subst e
  obtain ⟨b, rfl, hb⟩ := (i1.mono T2.st.fx).pk
  have hid2 := (hid.tr rfl T1).tr rfl T2
  have T3 := (T0.trans T1).trans T2
  refine ⟨b, pk n, rfl, hid2.at_, E2.ex _ _ hb, ?_⟩
  refine k _ ρ2 _ F2 _ (h2 p) (E2.put hid2.no hid2.fr) (T3.put (.inl hp)) ⟨rfl, hid2.fr, _, upd_same, .cons ⟨rfl, i2⟩ .nil⟩ fun q hq => ?_
  cases hq
  exact ⟨hid2.no, .inr hp⟩
theorem ws_dputK {i : Nat} (h : WE tv ρ fun dv ρ1 => (∃ p kvs, ρ1[i]? = some (some (.dk p kvs))) ∧ WE ty ρ1 fun dk ρ2 => ∃ (p : Addr) (k : Int) (kvs : List (Int × D)), dk = .int k ∧ ρ2[i]? = some (some (.dk p kvs)) ∧ lk kvs k = none ∧ kvs.length < 100000 ∧ N (ρ2.set i (some (.dk p (kvs ++ [(k, dv)]))))) : WS (sDPut (tVar i) ty tv) ρ N R := fun σ F H E Dc q1 q2 => by
  refine h σ F H E _ fun dv ρ1 v F1 H1 ⟨⟨p0, kv0, h0⟩, h1⟩ E1 T1 iv => ?_
  obtain ⟨x, g1, rfl, _⟩ := E1.at_ i _ h0
  refine ⟨_, g1, h1 σ F1 H1 E1 _ fun dk ρ2 y F2 H2 ⟨p, k, kvs, e, e2, e3, hz, hN⟩ E2 T2 iy => ?_⟩
  subst e
  have iy : y = .int k := iy
  subst iy
  obtain ⟨x', g1', e5, f0, kv, g4, g5⟩ := E2.at_ i _ e2
  rw [g1] at g1'
  have e6 : V.ref p0 = x' := Option.some.inj (Option.some.inj g1')
  rw [e5] at e6
  cases e6
  refine ⟨p0, _, rfl, DPut.k (k := Sum.inl k) g4 (by rw [Paired.len g5]; exact Nat.lt_of_lt_of_le hz (by decide)), ?_⟩
  have T3 := T1.trans T2
  exact q1 _ σ F2 _ hN (E2.write e2 rfl rfl ⟨rfl, f0, _, upd_same, g5.put e3 (iv.mono T2.st.fx)⟩) (T3.write e2 rfl rfl)
theorem ws_dputT {i : Nat} (h : WE tv ρ fun dv ρ1 => (∃ p kvs, ρ1[i]? = some (some (.dt p kvs))) ∧ WE ty ρ1 fun dk ρ2 => ∃ (p : Addr) (k : Int × Int) (kvs : List ((Int × Int) × D)), dk = pD k ∧ ρ2[i]? = some (some (.dt p kvs)) ∧ lk kvs k = none ∧ kvs.length < 100000 ∧ N (ρ2.set i (some (.dt p (kvs ++ [(k, dv)]))))) : WS (sDPut (tVar i) ty tv) ρ N R := fun σ F H E Dc q1 q2 => by
  refine h σ F H E _ fun dv ρ1 v F1 H1 ⟨⟨p0, kv0, h0⟩, h1⟩ E1 T1 iv => ?_
  obtain ⟨x, g1, rfl, _⟩ := E1.at_ i _ h0
  refine ⟨_, g1, h1 σ F1 H1 E1 _ fun dk ρ2 y F2 H2 ⟨p, k, kvs, e, e2, e3, hz, hN⟩ E2 T2 iy => ?_⟩
  subst e
  obtain ⟨b, rfl, hb⟩ := iy.pk
  obtain ⟨x', g1', e5, f0, kv, g4, g5⟩ := E2.at_ i _ e2
  rw [g1] at g1'
  have e6 : V.ref p0 = x' := Option.some.inj (Option.some.inj g1')
  rw [e5] at e6
  cases e6
  refine ⟨p0, _, rfl, DPut.t (k := pk k) g4 (E2.ex _ _ hb) (by rw [Paired.len g5]; exact Nat.lt_of_lt_of_le hz (by decide)), ?_⟩
  have T3 := T1.trans T2
  exact q1 _ σ F2 _ hN (E2.write e2 rfl rfl ⟨rfl, f0, _, upd_same, g5.put e3 (iv.mono T2.st.fx)⟩) (T3.write e2 rfl rfl)
theorem we_dgetK {i : Nat} {p0 : Addr} {kv0 : List (Int × D)} (h0 : ρ[i]? = some (some (.dk p0 kv0))) (h : WE ty ρ fun dk ρ1 => ∃ (p : Addr) (k : Int) (kvs : List (Int × D)) (d : D), dk = .int k ∧ ρ1[i]? = some (some (.dk p kvs)) ∧ lk kvs k = some d ∧ Q d ρ1) : WE (tDGet (tVar i) ty) ρ Q := fun σ F H E Qc q => by
  obtain ⟨x, g1, rfl, _⟩ := E.at_ i _ h0
  refine ⟨_, g1, h σ F H E _ fun dk ρ2 y F2 H2 ⟨p, k, kvs, d, e, e2, e3, hQ⟩ E2 T2 iy => ?_⟩
  subst e
  have iy : y = .int k := iy
  subst iy
  obtain ⟨x', g1', e5, f0, kv, g4, g5⟩ := E2.at_ i _ e2
  rw [g1] at g1'
  have e6 : V.ref p0 = x' := Option.some.inj (Option.some.inj g1')
  rw [e5] at e6
  cases e6
  rcases g5.val k with ⟨z, _⟩ | ⟨d', v, z1, z2, z3⟩
  · rw [e3] at z; cases z
  · rw [e3] at z1; cases z1
    exact ⟨p0, v, rfl, by rw [← z2]; exact DGet.k (k := Sum.inl k) g4, q d ρ2 v F2 H2 hQ E2 T2 z3⟩
theorem we_dgetT {i : Nat} {p0 : Addr} {kv0 : List ((Int × Int) × D)} (h0 : ρ[i]? = some (some (.dt p0 kv0))) (h : WE ty ρ fun dk ρ1 => ∃ (p : Addr) (k : Int × Int) (kvs : List ((Int × Int) × D)) (d : D), dk = pD k ∧ ρ1[i]? = some (some (.dt p kvs)) ∧ lk kvs k = some d ∧ Q d ρ1) : WE (tDGet (tVar i) ty) ρ Q := fun σ F H E Qc q => by
  obtain ⟨x, g1, rfl, _⟩ := E.at_ i _ h0
  refine ⟨_, g1, h σ F H E _ fun dk ρ2 y F2 H2 ⟨p, k, kvs, d, e, e2, e3, hQ⟩ E2 T2 iy => ?_⟩
  subst e
  obtain ⟨b, rfl, hb⟩ := iy.pk
  obtain ⟨x', g1', e5, f0, kv, g4, g5⟩ := E2.at_ i _ e2
  rw [g1] at g1'
  have e6 : V.ref p0 = x' := Option.some.inj (Option.some.inj g1')
  rw [e5] at e6
  cases e6
  rcases g5.val k with ⟨z, _⟩ | ⟨d', v, z1, z2, z3⟩
  · rw [e3] at z; cases z
  · rw [e3] at z1; cases z1
    exact ⟨p0, v, rfl, by rw [← z2]; exact DGet.t (k := pk k) g4 (E2.ex _ _ hb), q d ρ2 v F2 H2 hQ E2 T2 z3⟩
theorem we_dgetL {i : Nat} {p0 : Addr} {kv0 : List ((Int × Int) × D)} (h0 : ρ[i]? = some (some (.dl p0 kv0))) (h : WE ty ρ fun dk ρ1 => ∃ (p : Addr) (k : Int × Int) (kvs : List ((Int × Int) × D)) (d : D), dk = pD k ∧ ρ1[i]? = some (some (.dl p kvs)) ∧ lk kvs k = some d ∧ Q d ρ1) : WE (tDGet (tVar i) ty) ρ Q := fun σ F H E Qc q => by
  obtain ⟨x, g1, rfl, _⟩ := E.at_ i _ h0
  refine ⟨_, g1, h σ F H E _ fun dk ρ2 y F2 H2 ⟨p, k, kvs, d, e, e2, e3, hQ⟩ E2 T2 iy => ?_⟩
  subst e
  obtain ⟨b, rfl, hb⟩ := iy.pk
  obtain ⟨x', g1', e5, od, kv, g4, g5⟩ := E2.at_ i _ e2
  rw [g1] at g1'
  have e6 : V.ref p0 = x' := Option.some.inj (Option.some.inj g1')
  rw [e5] at e6
  cases e6
  rcases g5.val k with ⟨z, _⟩ | ⟨d', v, z1, z2, z3⟩
  · rw [e3] at z; cases z
  · rw [e3] at z1; cases z1
    exact ⟨p0, v, rfl, .inr ⟨kv, pk k, b, .inr ⟨od, E2.ex _ _ g4⟩, rfl, E2.ex _ _ hb, z2.symm⟩, q d ρ2 v F2 H2 hQ E2 T2 z3⟩
theorem we_dnotinK {i : Nat} (h : WE ty ρ fun dk ρ1 => ∃ (p : Addr) (k : Int) (kvs : List (Int × D)), dk = .int k ∧ ρ1[i]? = some (some (.dk p kvs)) ∧ Q (.bl (lk kvs k).isNone) ρ1) : WE (tDNotIn ty (tVar i)) ρ Q := fun σ F H E Qc q => by
  refine h σ F H E _ fun dk ρ2 y F2 H2 ⟨p, k, kvs, e, e2, hQ⟩ E2 T2 iy => ?_
  subst e
  have iy : y = .int k := iy
  subst iy
  obtain ⟨x', g1, rfl, f0, kv, g4, g5⟩ := E2.at_ i _ e2
  refine ⟨_, g1, p, _, rfl, DGet.k (k := Sum.inl k) g4, q _ ρ2 _ F2 H2 hQ E2 T2 ?_⟩
  show V.bl _ = V.bl _
  rcases g5.val k with ⟨z, z2⟩ | ⟨d', v, z1, z2, z3⟩
  · rw [z, z2]; rfl
  · rw [z1, z2]; rfl
theorem we_dnotinT {i : Nat} (h : WE ty ρ fun dk ρ1 => ∃ (p : Addr) (k : Int × Int) (kvs : List ((Int × Int) × D)), dk = pD k ∧ ρ1[i]? = some (some (.dt p kvs)) ∧ Q (.bl (lk kvs k).isNone) ρ1) : WE (tDNotIn ty (tVar i)) ρ Q := fun σ F H E Qc q => by
  refine h σ F H E _ fun dk ρ2 y F2 H2 ⟨p, k, kvs, e, e2, hQ⟩ E2 T2 iy => ?_
  subst e
  obtain ⟨b, rfl, hb⟩ := iy.pk
  obtain ⟨x', g1, rfl, f0, kv, g4, g5⟩ := E2.at_ i _ e2
  refine ⟨_, g1, p, _, rfl, DGet.t (k := pk k) g4 (E2.ex _ _ hb), q _ ρ2 _ F2 H2 hQ E2 T2 ?_⟩
  show V.bl _ = V.bl _
  rcases g5.val k with ⟨z, z2⟩ | ⟨d', v, z1, z2, z3⟩
  · rw [z, z2]; rfl
  · rw [z1, z2]; rfl
theorem we_setd {i : Nat} {p0 : Addr} {kv0 : List (Int × D)} (h0 : ρ[i]? = some (some (.dk p0 kv0))) (h : WE ty ρ fun dk ρ1 => WE tx ρ1 fun dx ρ2 => ∃ (p : Addr) (k : Int) (kvs : List (Int × D)), dk = .int k ∧ ρ2[i]? = some (some (.dk p kvs)) ∧ kvs.length < 100000 ∧ (∀ d, lk kvs k = some d → Q d ρ2) ∧ (lk kvs k = none → Q dx (ρ2.set i (some (.dk p (kvs ++ [(k, dx)])))))) : WE (tDSetd (tVar i) ty tx) ρ Q := fun σ F H E Qc q => by
  obtain ⟨x, g1, rfl, f00, kv00, g40, _⟩ := E.at_ i _ h0
  refine ⟨_, g1, p0, rfl, .inl ⟨kv00, .inl g40⟩, ?_⟩
  refine h σ F H E _ fun dk ρ1 y F1 H1 h1 E1 T1 iy => ?_
  refine h1 σ F1 H1 E1 _ fun dx ρ2 z F2 H2 ⟨p, k, kvs, e, e2, hz, hs, hn⟩ E2 T2 iz => ?_
  subst e
  have iy : y = .int k := iy
  subst iy
  obtain ⟨x', g1', e5, f0, kv, g4, g5⟩ := E2.at_ i _ e2
  rw [g1] at g1'
  have e6 : V.ref p0 = x' := Option.some.inj (Option.some.inj g1')
  rw [e5] at e6
  cases e6
  have T3 := T1.trans T2
  refine ⟨kv, Sum.inl k, g4, rfl, by rw [Paired.len g5]; exact Nat.lt_of_lt_of_le hz (by decide), fun v hv => ?_, fun hv => ?_⟩
  · rcases g5.val k with ⟨_, z2⟩ | ⟨d', v', z1, z2, z3⟩
    · rw [hv] at z2; cases z2
    · rw [hv] at z2; cases z2
      exact q d' ρ2 v F2 H2 (hs d' z1) E2 T3 z3
  · rcases g5.val k with ⟨z1, z2⟩ | ⟨d', v', z1, z2, z3⟩
    · exact q dx _ z F2 _ (hn z1) (E2.write e2 rfl rfl ⟨rfl, f0, _, upd_same, g5.put z1 iz⟩) (T3.write e2 rfl rfl) iz
    · rw [hv] at z2; cases z2
theorem we_lenDk {i : Nat} {p : Addr} {kvs : List (Int × D)} (hi : ρ[i]? = some (some (.dk p kvs))) (q : Q (.int (kvs.length : Int)) ρ) : WE (tCB (fun xs H Q => ∃ a kvs, xs = [V.ref a] ∧ H a = some (.dK kvs) ∧ Q (.int kvs.length) H) (tCons (tVar i) tNil)) ρ Q := fun σ F H E Qc k => by
  obtain ⟨v, g1, rfl, g3, kv, g4, g5⟩ := E.at_ i _ hi
  exact ⟨_, g1, p, kv, rfl, g4, k _ ρ _ F H q E Tr.refl (by show V.int _ = V.int _; rw [Paired.len g5])⟩
def rSDI : List V → Hp → VK → Prop := fun xs H Q => ∃ (a : Addr) (kvs : List (Key × V)) (ks : List Int), xs = [.ref a] ∧ Rd H a (.dK kvs) ∧ kvs.map (·.1) = ks.map Sum.inl ∧ ks.length < 64 ∧
    ∀ (ys : List Int) (p : Addr), ys.Perm ks → ys.Pairwise (· ≤ ·) → H p = none → Q (.ref p) (upd H p (.lst (ys.map V.int)))
theorem cr_SDI {X : Cx} (hc : X.calm = true) : CallR X (.builtin "sorted") rSDI := call_sortedDI hc
theorem we_sortedD (h : WC te ρ fun c ρ1 => ∃ (p : Addr) (kvs : List (Int × D)), c = .dk p kvs ∧ kvs.length < 64 ∧ ∀ ys : List Int, ys.Perm (kvs.map (·.1)) → ys.Pairwise (· ≤ ·) → Q (.lst (ys.map .int)) ρ1) : WE (tCB rSDI (tCons te tNil)) ρ Q := fun σ F H E Qc k => by
  refine h σ F H E _ fun c ρ1 v F1 H1 ⟨p, kvs, e, hz, hQ⟩ E1 T1 hc ho => ?_
  subst e
  obtain ⟨rfl, g3, kv, g4, g5⟩ := hc
  have ek : kv.map (·.1) = (kvs.map (·.1)).map Sum.inl := KvI.keys g5
  refine ⟨p, kv, kvs.map (·.1), rfl, .inl g4, ek, by rw [List.length_map]; exact hz, fun ys q h1 h2 hq => ?_⟩
  have g := Gr.new E1.ex hq (o := .lst (ys.map V.int))
  exact k _ ρ1 _ _ _ (hQ ys h1 h2) (E1.step g) (T1.trans g.tr) ⟨q, _, rfl, upd_same, IsL.ints ys⟩

/-! ### for k in d, the dict locked -/
def noP (F : Hp) (p : Addr) : Hp := fun a => if a = p then none else F a
theorem noP_ne {F : Hp} {p a : Addr} (h : a ≠ p) : noP F p a = F a := if_neg h
theorem noP_same {F : Hp} {p : Addr} : noP F p p = none := if_pos rfl
mutual
theorem Is.noP {F : Hp} {p : Addr} {od : Obj} {u : HO} (hp : F p = some (.frz od u)) : ∀ {d : D} {v : V}, Is F d v → Is (K47.noP F p) d v
  | .non, _, h => h
  | .bl _, _, h => h
  | .int _, _, h => h
  | .str _, _, h => h
  | .tup ds, v, h => by
    obtain ⟨a, vs, h1, h2, h3⟩ := (show ∃ a vs, v = .ref a ∧ F a = some (.tup vs) ∧ IsL F ds vs from h)
    have ne : a ≠ p := fun z => by subst z; rw [hp] at h2; cases h2
    exact ⟨a, vs, h1, by rw [noP_ne ne]; exact h2, IsL.noP hp h3⟩
  | .lst ds, v, h => by
    obtain ⟨a, vs, h1, h2, h3⟩ := (show ∃ a vs, v = .ref a ∧ F a = some (.lst vs) ∧ IsL F ds vs from h)
    have ne : a ≠ p := fun z => by subst z; rw [hp] at h2; cases h2
    exact ⟨a, vs, h1, by rw [noP_ne ne]; exact h2, IsL.noP hp h3⟩
theorem IsL.noP {F : Hp} {p : Addr} {od : Obj} {u : HO} (hp : F p = some (.frz od u)) : ∀ {ds : List D} {vs : List V}, IsL F ds vs → IsL (K47.noP F p) ds vs
  | [], _, h => h
  | d :: ds, vs, h => by
    obtain ⟨v, r, h1, h2, h3⟩ := (show ∃ v r, vs = v :: r ∧ Is F d v ∧ IsL F ds r from h)
    exact ⟨v, r, h1, Is.noP hp h2, IsL.noP hp h3⟩
end
theorem CellOk.noP {F H : Hp} {p : Addr} {od : Obj} {w : HO} (hp : F p = some (.frz od w)) {v : V} {c : Cell} (h : CellOk F H v c) (hl : ∀ kvs, c ≠ .dl p kvs) (hw : HO) : CellOk (K47.noP F p) (upd H p hw) v c := by
  have ne : ∀ q, F q = none → q ≠ p := fun q e z => by subst z; rw [hp] at e; cases e
  cases c with
  | imm d => exact Is.noP hp h
  | ol q ds =>
    obtain ⟨h1, h2, vs, h3, h4⟩ := h
    exact ⟨h1, by rw [noP_ne (ne q h2)]; exact h2, vs, by rw [upd_ne (ne q h2)]; exact h3, h4.noP hp⟩
  | dk q kvs =>
    obtain ⟨h1, h2, vs, h3, h4⟩ := h
    exact ⟨h1, by rw [noP_ne (ne q h2)]; exact h2, vs, by rw [upd_ne (ne q h2)]; exact h3, Paired.mapP h4 fun _ _ r => ⟨r.1, r.2.noP hp⟩⟩
  | dt q kvs =>
    obtain ⟨h1, h2, vs, h3, h4⟩ := h
    exact ⟨h1, by rw [noP_ne (ne q h2)]; exact h2, vs, by rw [upd_ne (ne q h2)]; exact h3, Paired.mapP h4 fun _ _ r => ⟨r.1, r.2.noP hp⟩⟩
  | dl q kvs =>
    obtain ⟨h1, od', vs, h3, h4⟩ := h
    have nq : q ≠ p := fun z => hl kvs (by rw [z])
    exact ⟨h1, od', vs, by rw [noP_ne nq]; exact h3, Paired.mapP h4 fun _ _ r => ⟨r.1, r.2.noP hp⟩⟩
  | st q =>
    obtain ⟨h1, h2, c, cells, cur, k, h3, h4, h5⟩ := h
    have nc : c ≠ p := fun z => by subst z; rw [hp] at h4; cases h4
    exact ⟨h1, by rw [noP_ne (ne q h2)]; exact h2, c, cells, cur, k, by rw [upd_ne (ne q h2)]; exact h3, by rw [noP_ne nc]; exact h4, h5⟩
theorem wi_keys {i : Nat} {p : Addr} {kvs : List ((Int × Int) × D)} {Qi : List D → Rho → Prop} (hi : ρ[i]? = some (some (.dl p kvs))) (q : Qi (kvs.map fun e => pD e.1) ρ) : WI (iKeys (tVar i)) ρ Qi := fun σ F H E R k => by
  obtain ⟨v, g1, rfl, od, kv, g4, g5⟩ := E.at_ i _ hi
  refine ⟨_, g1, p, od, rfl, .inr ⟨kv, E.ex _ _ g4, k _ ρ _ F H q E Tr.refl fun F' H' e1 e2 => ?_⟩⟩
  have hl : kv.length = kvs.length := Paired.len g5
  have hs := e2 _ _ (e1 _ _ g4)
  rw [List.length_map]
  refine ⟨fun i hi => ⟨hs, by rw [hl]; exact hi⟩, ⟨hs, Nat.le_of_eq hl⟩, fun j x H'' hj hy => ?_⟩
  obtain ⟨e, k', v', b, hk, rfl, hb⟩ := hy
  refine ⟨e, ?_⟩
  have hj' : j < kvs.length := hj
  have key : ∀ {l₁ : List ((Int × Int) × D)} {l₂ : List (List Key × V)} {n : Nat} {z : List Key × V}, KvP F l₁ l₂ → l₂[n]? = some z → ∃ y, l₁[n]? = some y ∧ z.1 = pk y.1 := by
    intro l₁ l₂ n z h
    unfold KvP at h
    induction h generalizing n with
    | nil => intro e; simp at e
    | @cons a b as bs r t ih =>
      intro e
      cases n with
      | zero =>
        have e' : b = z := by simpa using e
        subst e'
        exact ⟨a, rfl, r.1⟩
      | succ n => exact ih (by simpa using e)
  obtain ⟨y, y1, y2⟩ := key g5 hk
  have y2 : k' = pk y.1 := y2
  subst y2
  exact ⟨pD y.1, by rw [List.getElem?_map, y1]; rfl, .inr ⟨b, [.int y.1.1, .int y.1.2], [.int y.1.1, .int y.1.2], rfl, rfl, hb, IsL.ints [y.1.1, y.1.2]⟩⟩
theorem ws_lock {i : Nat} {p : Addr} {kvs : List ((Int × Int) × D)} (hi : ρ[i]? = some (some (.dt p kvs))) (h : WS ts (ρ.set i (some (.dl p kvs))) (fun ρ' => ρ'[i]? = some (some (.dl p kvs)) ∧ (∀ j c, ρ'[j]? = some (some c) → j ≠ i → ∀ k2, c ≠ .dl p k2) ∧ N (ρ'.set i (some (.dt p kvs)))) (fun _ _ => False)) : WS (tLock ts) ρ N R := fun σ F H E Dc q1 q2 => by
  obtain ⟨v, g1, rfl, g3, kv, g4, g5⟩ := E.at_ i _ hi
  have hl : i < ρ.length := (List.getElem?_eq_some_iff.mp hi).1
  refine ⟨p, _, g4, True.intro, fun od => ?_⟩
  have nO : ¬ Own (ρ.set i none) p := fun ⟨j, cj, k1, k2⟩ => by
    by_cases e : i = j
    · subst e; rw [List.getElem?_set_self hl] at k1; cases k1
    · rw [List.getElem?_set_ne e] at k1
      exact e (E.nd i j _ cj p hi k1 rfl k2)
  have eF : Ex F (upd F p (.frz od (.dT kv))) := Ex.new g3
  have E1 := (((E.forget i).put (o := .frz od (.dT kv)) nO g3).freeze (p := p) (o := .frz od (.dT kv)) upd_same nO g3)
  have E2 := E1.set i (c := .dl p kvs) (v := .ref p) ⟨rfl, od, kv, upd_same, g5.mono eF⟩ fun q hq => by cases hq
  have eσ : σ.set i (some (.ref p)) = σ := by
    apply List.ext_getElem?
    intro j
    by_cases e : i = j
    · subst e
      rw [List.getElem?_set_self (by rw [E.len]; exact hl), g1]
    · rw [List.getElem?_set_ne e]
  rw [eσ, List.set_set] at E2
  refine h σ _ _ E2 _ (fun ρ' σ' F' H' ⟨hp, hnd, hN⟩ E' T' => ?_) fun _ _ _ _ _ _ z => z.elim
  -- the lock is taken off
  have fp : F' p = some (.frz od (.dT kv)) := T'.st.fx _ _ upd_same
  refine ⟨E'.ex _ _ fp, ?_⟩
  have hl' : i < ρ'.length := (List.getElem?_eq_some_iff.mp hp).1
  have E3 : Env (noP F' p) (upd H' p (.dT kv)) σ' (ρ'.set i (some (.dt p kvs))) := by
    obtain ⟨v', k1, rfl, od', kv', k3, k4⟩ := E'.at_ i _ hp
    rw [fp] at k3
    cases k3
    refine ⟨by rw [List.length_set]; exact E'.len, fun a o ha => ?_, fun j c hc => ?_, fun j k cj ck q h1 h2 o1 o2 => ?_⟩
    · by_cases e : a = p
      · subst e; rw [noP_same] at ha; cases ha
      · rw [noP_ne e] at ha; rw [upd_ne e]; exact E'.ex a o ha
    · by_cases e : i = j
      · subst e
        rw [List.getElem?_set_self hl'] at hc
        have e : Cell.dt p kvs = c := Option.some.inj (Option.some.inj hc)
        subst e
        exact ⟨.ref p, k1, rfl, noP_same, kv, upd_same, Paired.mapP k4 fun _ _ r => ⟨r.1, r.2.noP fp⟩⟩
      · rw [List.getElem?_set_ne e] at hc
        obtain ⟨x, x1, x2⟩ := E'.at_ j c hc
        exact ⟨x, x1, x2.noP fp (hnd j c hc fun z => e z.symm) _⟩
    · have nown : ∀ {j : Nat} {cj : Cell}, ρ'[j]? = some (some cj) → cj.own ≠ some p := fun {j cj} hj ho => by
        have := (E'.own_none ⟨j, cj, hj, ho⟩).1
        rw [fp] at this; cases this
      by_cases e1 : i = j
      · subst e1
        rw [List.getElem?_set_self hl'] at h1
        have e : Cell.dt p kvs = cj := Option.some.inj (Option.some.inj h1)
        subst e
        cases o1
        by_cases e2 : i = k
        · exact e2
        · rw [List.getElem?_set_ne e2] at h2
          exact absurd o2 (nown h2)
      · rw [List.getElem?_set_ne e1] at h1
        by_cases e2 : i = k
        · subst e2
          rw [List.getElem?_set_self hl'] at h2
          have e : Cell.dt p kvs = ck := Option.some.inj (Option.some.inj h2)
          subst e
          cases o2
          exact absurd o1 (nown h1)
        · rw [List.getElem?_set_ne e2] at h2
          exact E'.nd j k cj ck q h1 h2 o1 o2
  refine q1 _ σ' _ _ hN E3 ⟨⟨fun a o ha => ?_, fun a o ha hn => ?_⟩, fun a ha => ?_⟩
  · have ne : a ≠ p := fun z => by subst z; rw [g3] at ha; cases ha
    rw [noP_ne ne]
    exact T'.st.fx _ _ (eF _ _ ha)
  · have ne : a ≠ p := fun z => hn (z ▸ ⟨i, _, hi, rfl⟩)
    have hn' : ¬ Own (ρ.set i (some (.dl p kvs))) a := fun z => by
      rcases z.set with z | ⟨c, e, z⟩
      · exact hn z
      · cases e; cases z
    obtain ⟨e1, e2⟩ := T'.st.keep a o (by rw [upd_ne ne]; exact ha) hn'
    refine ⟨by rw [upd_ne ne]; exact e1, fun q => ?_⟩
    rw [noP_ne ne]
    exact (e2 q).trans (upd_ne ne)
  · rcases ha.set with z | ⟨c, e, z⟩
    · rcases T'.sub a z with z | z
      · rcases z.set with z | ⟨c, e, z⟩
        · exact .inl z
        · cases e; cases z
      · have ne : a ≠ p := fun q => by subst q; rw [upd_same] at z; cases z
        rw [upd_ne ne] at z
        exact .inr z
    · cases e; cases z
      exact .inl ⟨i, _, hi, rfl⟩

/-! ### [e for a in xs for b in ys] -/
theorem we_lc2 {wi wi1 : TI} {g g1 : TG} {tt1 : TT} {vs vs1 : List Nat} (h : WI wi ρ fun ds ρ1 => ∃ I : Nat → List D → Rho → Prop, I 0 [] (wipeR ρ1 vs) ∧
      (∀ i d acc ρ', ds[i]? = some d → I i acc ρ' → WGv g vs d ρ' fun ρ2 => WT tt ρ2 fun b ρ3 => b = true ∧ WI wi1 ρ3 fun ds1 ρ4 => ∃ J : Nat → List D → Rho → Prop, J 0 acc ρ4 ∧
        (∀ j d1 acc1 ρ5, ds1[j]? = some d1 → J j acc1 ρ5 → WGv g1 vs1 d1 (wipeR ρ5 vs1) fun ρ6 => WT tt1 ρ6 fun b1 ρ7 => b1 = true ∧ WE te ρ7 fun y ρ8 => acc1.length < 100000 ∧ J (j + 1) (acc1 ++ [y]) (wipeR ρ8 vs1)) ∧
        ∀ acc1 ρ5, J ds1.length acc1 ρ5 → I (i + 1) acc1 (wipeR ρ5 vs)) ∧
      ∀ acc ρ', I ds.length acc ρ' → Q (.lst acc) ρ') : WE (tLc2 wi g tt wi1 g1 tt1 te vs vs1) ρ Q := fun σ F H E Qc k => by
  refine h σ F H E _ fun ds ρ1 J F1 H1 ⟨I, h0, hs, hd⟩ E1 T1 hw A hA => ?_
  have nA : ¬ Own ρ1 A := fun z => E1.own_some z hA
  have fA : F1 A = none := E1.ex.back hA
  have A0 : H A = none ∨ Own ρ A := (T1.none_back hA).symm
  refine ⟨fun i m H' => m = ds.length - i ∧ i ≤ ds.length ∧ ∃ acc ρ' F', I i acc ρ' ∧ Env F' H' (L2.wipe σ vs) ρ' ∧ Tr ρ F H ρ' F' H' ∧ Acc ρ' F' H' A acc ∧ Ex F1 F', ⟨ds.length, by simp, Nat.zero_le _, [], wipeR ρ1 vs, F1, h0, (E1.put nA fA).wipe vs, Tr.put ⟨T1.st, fun a z => T1.sub a z.wipe⟩ A0, ⟨fun z => nA z.wipe, fA, [], upd_same, rfl⟩, Ex.refl _⟩, ?_⟩
  rintro i m H' ⟨rfl, hi, acc, ρ', F', hI, E', T', ac, e'⟩
  obtain ⟨w1, w2, w3⟩ := hw F' H' e' E'.ex
  by_cases hlt : i < ds.length
  · refine .inr ⟨w1 i hlt, fun H2 => ∃ acc ρ' F', I (i + 1) acc ρ' ∧ Env F' H2 (L2.wipe σ vs) ρ' ∧ Tr ρ F H ρ' F' H2 ∧ Acc ρ' F' H2 A acc ∧ Ex F1 F', fun H2 z => ⟨ds.length - (i + 1), by omega, rfl, hlt, z⟩, fun x H'' hy => ?_⟩
    obtain ⟨e, d, hd', hx⟩ := w3 i x H'' hlt hy
    subst e
    obtain ⟨Fk, hx, Ek, Tk⟩ := hx.know E'
    have T' := T'.trans Tk
    have e' := e'.trans Tk.st.fx
    have ac := ac.tr Tk
    refine hs i d acc ρ' hd' hI (L2.wipe σ vs) Fk _ x Ek hx _ fun ρ2 σ2 ht E2 o2 ww => ?_
    have ww : L2.wipe σ2 vs = L2.wipe σ vs := ww.trans (wipe_idem vs σ)
    have T2 : Tr ρ F H ρ2 Fk _ := ⟨T'.st, fun a z => T'.sub a (o2 a z)⟩
    have ac2 : Acc ρ2 Fk _ A acc := ⟨fun z => ac.no (o2 A z), ac.fr, ac.at_⟩
    refine ⟨ww, ht σ2 Fk _ E2 _ fun b ρ3 F3 H3 ⟨hb, h3⟩ E3 T3 => ?_⟩
    subst hb
    have ac3 := ac2.tr T3
    have T3' := T2.trans T3
    refine h3 σ2 F3 H3 E3 _ fun ds1 ρ4 J4 F4 H4 ⟨M, m0, ms, md⟩ E4 T4 hw4 => ?_
    have ac4 := ac3.tr T4
    have T4' := T3'.trans T4
    have e4 : Ex F1 F4 := (e'.trans T3.st.fx).trans T4.st.fx
    refine ⟨fun j n H5 => n = ds1.length - j ∧ j ≤ ds1.length ∧ ∃ acc1 ρ5 F5, M j acc1 ρ5 ∧ Env F5 H5 σ2 ρ5 ∧ Tr ρ F H ρ5 F5 H5 ∧ Acc ρ5 F5 H5 A acc1 ∧ Ex F4 F5, ⟨ds1.length, by simp, Nat.zero_le _, acc, ρ4, F4, m0, E4, T4', ac4, Ex.refl _⟩, ?_⟩
    rintro j n H5 ⟨rfl, hj, acc1, ρ5, F5, hM, E5, T5, ac5, e5⟩
    obtain ⟨v1, v2, v3⟩ := hw4 F5 H5 e5 E5.ex
    by_cases hlt1 : j < ds1.length
    · refine .inr ⟨v1 j hlt1, fun H6 => ∃ acc1 ρ5 F5, M (j + 1) acc1 ρ5 ∧ Env F5 H6 σ2 ρ5 ∧ Tr ρ F H ρ5 F5 H6 ∧ Acc ρ5 F5 H6 A acc1 ∧ Ex F4 F5, fun H6 z => ⟨ds1.length - (j + 1), by omega, rfl, hlt1, z⟩, fun x1 H6 hy1 => ?_⟩
      obtain ⟨e, d1, hd1, hx1⟩ := v3 j x1 H6 hlt1 hy1
      subst e
      obtain ⟨Fk5, hx1, Ek5, Tk5⟩ := hx1.know E5
      have T5 := T5.trans Tk5
      have e5 := e5.trans Tk5.st.fx
      have ac5 := ac5.tr Tk5
      have E5w := Ek5.wipe vs1
      refine ms j d1 acc1 ρ5 hd1 hM (L2.wipe σ2 vs1) Fk5 _ x1 E5w hx1 _ fun ρ6 σ6 h6 E6 o6 w6 => ?_
      have w6 : L2.wipe σ6 vs1 = L2.wipe σ2 vs1 := w6.trans (wipe_idem vs1 σ2)
      have T6 : Tr ρ F H ρ6 Fk5 _ := ⟨T5.st, fun a z => T5.sub a (o6 a z).wipe⟩
      have ac6 : Acc ρ6 Fk5 _ A acc1 := ⟨fun z => ac5.no (o6 A z).wipe, ac5.fr, ac5.at_⟩
      refine ⟨w6, h6 σ6 Fk5 _ E6 _ fun b ρ7 F7 H7 ⟨hb, h7⟩ E7 T7 => ?_⟩
      subst hb
      have ac7 := ac6.tr T7
      have T7' := T6.trans T7
      refine h7 σ6 F7 H7 E7 _ fun y ρ8 v F8 H8 ⟨hz, h8⟩ E8 T8 iy => ?_
      have ac8 := ac7.tr T8
      have T8' := T7'.trans T8
      obtain ⟨us, a1, a2⟩ := ac8.at_
      refine ⟨us, a1, by rw [a2.length]; exact Nat.lt_of_lt_of_le hz (by decide), acc1 ++ [y], wipeR ρ8 vs1, F8, h8, ?_, Tr.put ⟨T8'.st, fun a z => T8'.sub a z.wipe⟩ A0, ⟨fun z => ac8.no z.wipe, ac8.fr, _, upd_same, a2.append (IsL.one iy)⟩, (e5.trans T7.st.fx).trans T8.st.fx⟩
      have E9 := (E8.put (o := .lst (us ++ [v])) ac8.no ac8.fr).wipe vs1
      rw [w6] at E9
      exact E9.unwipe
    · have e : j = ds1.length := by omega
      subst e
      refine .inl ⟨v2, acc1, wipeR ρ5 vs, F5, md acc1 ρ5 hM, ?_, ⟨T5.st, fun a z => T5.sub a z.wipe⟩, ⟨fun z => ac5.no z.wipe, ac5.fr, ac5.at_⟩, e4.trans e5⟩
      have E9 := E5.wipe vs
      rw [ww] at E9
      exact E9
  · have e : i = ds.length := by omega
    subst e
    refine .inl ⟨w2, ?_⟩
    obtain ⟨us, a1, a2⟩ := ac.at_
    have E3 := (E'.unwipe).freeze a1 ac.no ac.fr
    exact k _ ρ' _ _ _ (hd acc ρ' hI) E3 (T'.freeze A0 ac.fr) ⟨A, us, rfl, upd_same, a2.mono (Ex.new ac.fr)⟩
end
end K47

set_option Elab.async false
set_option linter.all false
set_option maxRecDepth 100000
set_option maxHeartbeats 4000000
namespace K47
open PySem L2
section
variable {te ta tb tc tl : TE} {tt t u : TT} {ρ : Rho} {Q : D → Rho → Prop} {Qb : Bool → Rho → Prop} {N : Rho → Prop} {R : Cell → Rho → Prop} {ts t1 t2 : TS} {K : PySem.W.Frag}
theorem ws_asgG {g : TG} (h : WE te ρ fun d ρ1 => WG g d ρ1 N) : WS (tAsg te g) ρ N R := fun σ F H E Dc q1 q2 => by
  refine h σ F H E _ fun d ρ1 v F1 H1 h1 E1 T1 i1 => ?_
  exact h1 σ F1 H1 v E1 i1 _ fun ρ2 σ2 h2 E2 o2 => q1 ρ2 σ2 F1 H1 h2 E2 ⟨T1.st, fun a z => T1.sub a (o2 a z)⟩
/-- tests whose answer is known -/
theorem ws_ifT (h : WT t ρ fun b ρ1 => b = true ∧ WS t1 ρ1 N R) : WS (tIfS t t1 t2) ρ N R := ws_if fun σ F H E Qc k => h σ F H E Qc fun b ρ1 F1 H1 ⟨e, q⟩ => k b ρ1 F1 H1 ⟨fun _ => q, fun z => by rw [e] at z; cases z⟩
theorem ws_ifF (h : WT t ρ fun b ρ1 => b = false ∧ WS t2 ρ1 N R) : WS (tIfS t t1 t2) ρ N R := ws_if fun σ F H E Qc k => h σ F H E Qc fun b ρ1 F1 H1 ⟨e, q⟩ => k b ρ1 F1 H1 ⟨(fun z => by rw [e] at z; cases z), fun _ => q⟩
theorem wt_orF (h : WT t ρ fun b ρ1 => b = false ∧ WT u ρ1 Qb) : WT (tOr t u) ρ Qb := wt_or fun σ F H E Qc k => h σ F H E Qc fun b ρ1 F1 H1 ⟨e, q⟩ => k b ρ1 F1 H1 ⟨(fun z => by rw [e] at z; cases z), fun _ => q⟩
theorem wt_andT (h : WT t ρ fun b ρ1 => b = true ∧ WT u ρ1 Qb) : WT (tAnd t u) ρ Qb := wt_and fun σ F H E Qc k => h σ F H E Qc fun b ρ1 F1 H1 ⟨e, q⟩ => k b ρ1 F1 H1 ⟨fun _ => q, fun z => by rw [e] at z; cases z⟩
/-- a value that is a bool, as a test -/
theorem wt_Bb (h : WE te ρ fun d ρ1 => ∃ b, d = .bl b ∧ Qb b ρ1) : WT (tB te) ρ Qb := wt_B h
end
theorem rgD_eq (n : Nat) : rgD n = (List.range n).map fun i : Nat => D.int (i : Int) := rfl
end K47

set_option Elab.async false
set_option linter.all false
set_option maxRecDepth 100000
set_option maxHeartbeats 4000000
/-! The text by places; what the top has written, as the walks take it. -/
namespace K47
open PySem L2
def top (i : Nat) : Stmt := PySem.Challenge.pw_undobystate_k47_whole_joins_by_whomever.main.body.getD i (.Pass ⟨0, 0, 0, 0⟩)
abbrev s_is_whole : Stmt := top 6
abbrev s_is_system : Stmt := top 7
abbrev s_is_command : Stmt := top 8
abbrev s_step : Stmt := top 9
abbrev s_led : Stmt := top 10
abbrev s_check_system : Stmt := top 11
abbrev s_pairs_from : Stmt := top 13
abbrev s_reached : Stmt := top 15
abbrev s_reachable_of : Stmt := top 16
abbrev s_actions_in : Stmt := top 20
abbrev s_join : Stmt := top 21
abbrev s_alone : Stmt := top 22
abbrev s_command_steps : Stmt := top 23
abbrev s_action_steps : Stmt := top 24
abbrev s_closed : Stmt := top 25
abbrev s_finest_of : Stmt := top 26
abbrev s_finest : Stmt := top 27
abbrev s_check_two : Stmt := top 28
abbrev s_joins : Stmt := top 29
abbrev s_is_long_sequence : Stmt := top 30
abbrev s_command_pair : Stmt := top 31
abbrev s_action_pair : Stmt := top 32
abbrev s_pair_of : Stmt := top 33
abbrev s_accepts_joins : Stmt := top 34
abbrev s_law_stream : Stmt := top 36
abbrev s_law_next : Stmt := top 37
abbrev s_law_is_integer : Stmt := top 38
abbrev s_law_equal : Stmt := top 39
abbrev s_law_system : Stmt := top 40
abbrev s_law_some_system : Stmt := top 41
abbrev s_law_led : Stmt := top 42
abbrev s_law_reachable : Stmt := top 43
abbrev s_law_each : Stmt := top 44
abbrev s_law_is_sequence : Stmt := top 45
abbrev s_law_pair : Stmt := top 46
abbrev s_law_accepted : Stmt := top 47
abbrev s_law_sequence : Stmt := top 48
abbrev s_law_item : Stmt := top 49
abbrev s_law_turned : Stmt := top 50
abbrev s_law : Stmt := top 51
theorem bt_abs : bootBuiltins "abs" = some (.builtin "abs") := by decide +kernel
theorem bt_all : bootBuiltins "all" = some (.builtin "all") := by decide +kernel
theorem bt_bool : bootBuiltins "bool" = some (.type "bool") := by decide +kernel
theorem bt_int : bootBuiltins "int" = some (.type "int") := by decide +kernel
theorem bt_isinstance : bootBuiltins "isinstance" = some (.builtin "isinstance") := by decide +kernel
theorem bt_len : bootBuiltins "len" = some (.builtin "len") := by decide +kernel
theorem bt_list : bootBuiltins "list" = some (.type "list") := by decide +kernel
theorem bt_range : bootBuiltins "range" = some (.type "range") := by decide +kernel
theorem bt_sorted : bootBuiltins "sorted" = some (.builtin "sorted") := by decide +kernel
theorem bt_str : bootBuiltins "str" = some (.type "str") := by decide +kernel
theorem bt_tuple : bootBuiltins "tuple" = some (.type "tuple") := by decide +kernel
/-- what the module's names hold -/
structure Txt (K : PySem.W.Frag) (mg : Str → Option Value) : Prop where
  b_abs : mg "abs" = none
  b_all : mg "all" = none
  b_bool : mg "bool" = none
  b_int : mg "int" = none
  b_isinstance : mg "isinstance" = none
  b_len : mg "len" = none
  b_list : mg "list" = none
  b_range : mg "range" = none
  b_sorted : mg "sorted" = none
  b_str : mg "str" = none
  b_tuple : mg "tuple" = none
  k_MOST_STATES : ∃ t, mg "MOST_STATES" = some (.int 8 t)
  k_MOST_COMMANDS : ∃ t, mg "MOST_COMMANDS" = some (.int 4 t)
  k_MOST_STEPS : ∃ t, mg "MOST_STEPS" = some (.int 100 t)
  k_LONGEST : ∃ t, mg "LONGEST" = some (.int 64 t)
abbrev FnP (K : PySem.W.Frag) (x : Str) (st : Stmt) (f : Addr) (fd : FuncData) : Prop := FunD K x x (defArgs st) (defBody st) (defScope st) [] [] f fd
/-- a def as its callers take it -/
structure Cal (P : Program) (w : World) (K : PySem.W.Frag) (mg : Str → Option Value) (base : Heap) (x : Str) (k : Nat) (ps : List Str) (sp : Sp) (f : Addr) (fd : FuncData) : Prop where
  G : FnOk P w K mg base CX0 k f fd ps sp
  m : mg x = some (.ref f)
  kp : PySem.W.keepIn K (.ref f) = true
  b : Binds K fd ps []
theorem len_P {T : List D → (Cell → Prop) → Prop} {n : Nat} (hT : ∀ ds Q, T ds Q → ds.length = n) {vs : List V} {H : Hp} {Q : VK} {E : XK} (h : spP T vs H Q E) : vs.length = n := by
  obtain ⟨F, ds, Q', _, h1, h2, _⟩ := h
  rw [h1.length]; exact hT _ _ h2
theorem len_S {T : List D → (D → Prop) → Prop} {n : Nat} (hT : ∀ ds Q, T ds Q → ds.length + 1 = n) {vs : List V} {H : Hp} {Q : VK} {E : XK} (h : spS T vs H Q E) : vs.length = n := by
  obtain ⟨F, p, us, ds, Q', rfl, _, _, _, h1, h2, _⟩ := h
  show us.length + 1 = n
  rw [h1.length]; exact hT _ _ h2
/-! rules whose readings name K, with K written -/
section
variable {X : Cx} (K : PySem.W.Frag) (hK : X.K = K)
theorem ixK (h : X.K = K := by rfl) : IxR X (rIx K) := h ▸ ix_seq
theorem plusK (h : X.K = K := by rfl) : OpR X (binaryOp .Add) (rPlus K) := h ▸ op_plus
theorem timesK (h : X.K = K := by rfl) : OpR X (binaryOp .Mult) (rTimes K) := h ▸ op_times
theorem inK (h : X.K = K := by rfl) : OpR X (compareOp .In) (rIn K false) := h ▸ op_in_seq
theorem notInK (h : X.K = K := by rfl) : OpR X (compareOp .NotIn) (rIn K true) := h ▸ op_notIn_seq
theorem eqDK (hu : X.A.units + 64 < cLine) (h : X.K = K := by rfl) : OpR X (compareOp .Eq) (rEqD K) := h ▸ op_eqD hu
theorem lenK (h : X.K = K := by rfl) : CallR X (.builtin "len") (fun xs H Q => ∃ p ys, xs = [V.ref p] ∧ (SqL K H p ys ∨ SqT K H p ys) ∧ Q (.int ys.length) H) := h ▸ call_len_seq
theorem isiK (h : X.K = K := by rfl) : CallR X (.builtin "isinstance") (rIsi K) := h ▸ call_isi
theorem allK (hc : X.calm = true) (h : X.K = K := by rfl) : CallR X (.builtin "all") (rAll K) := h ▸ cr_all hc
theorem sortedK (h : X.K = K := by rfl) : CallR X (.builtin "sorted") (rSorted K) := h ▸ cr_sorted
theorem listK (h : X.K = K := by rfl) : CallR X (.type "list") (fun xs H Q => ∃ p ys, xs = [V.ref p] ∧ (SqL K H p ys ∨ SqT K H p ys) ∧ ∀ l, H l = none → Q (.ref l) (upd H l (.lst ys))) := h ▸ call_list_of
theorem tupleK (h : X.K = K := by rfl) : CallR X (.type "tuple") (fun xs H Q => ∃ p ys, xs = [V.ref p] ∧ ((SqL K H p ys ∧ ∀ l, H l = none → Q (.ref l) (upd H l (.tup ys))) ∨ (SqT K H p ys ∧ Q (.ref p) H))) := h ▸ call_tuple_of
theorem slK (h : X.K = K := by rfl) : SlR X (rSlA K) := h ▸ sl_tupA
variable {e a l o : Expr} {es : List Expr} {te ta tl to : TE} {t : TA} {pos apos cpos : Pos} {tg : Expr}
theorem revK {k : Nat} {p1 p2 p3 : Pos} (he : PE X e te) (h : X.K = K := by rfl) : PE X (.Subscript e (.Slice none none (some (.UnaryOp .USub (.Constant (.int 1) k p1) p2)) p3) pos) (tRevT K te) := h ▸ pe_revT he
def tTru (K : PySem.W.Frag) (ta : TE) : TT := fun σ H Q => ta σ H fun x H' => ∃ k, TruV K x H' k ∧ Q k H'
theorem truK (ha : PE X a ta) (he : ∀ whole, isTrue a X.env whole = (do let v ← whole; standAt a.pos; holding [v] (truthy v))) (h : X.K = K := by rfl) : PT X a (tTru K ta) := h ▸ pt_truth ha he
theorem wt_truK {K : PySem.W.Frag} {te : TE} {ρ : Rho} {Qb : Bool → Rho → Prop} (h : WE te ρ fun d ρ1 => ∃ b, d.tru = some b ∧ Qb b ρ1) : WT (tTru K te) ρ Qb := wt_tru h
theorem piTK (hl : PE X l tl) (h : X.K = K := by rfl) : PI X tg l (iTup K tl) := h ▸ pi_tup hl
theorem piLK (hl : PE X l tl) (h : X.K = K := by rfl) : PI X tg l (iList K tl) := h ▸ pi_list hl
theorem tupTK {k : Nat} {t : TGs} {n : Nat} (hc : X.calm = true) (hg : PGs X es t) (hn : (assignEach es X.env).length = n := by rfl) (hst : (assignEach es X.env).findIdx? (·.1) = none := by rfl) (h : X.K = K := by rfl) : PG X (.Tuple es k pos) (gTup K n t) := h ▸ pg_tup hc hg hn hst
theorem bmK {e : Expr} {T : String} {r : V → List V → Hp → VK → Prop} (p : PE X e (tBM X.K T r to t)) (h : X.K = K := by rfl) : PE X e (tBM K T r to t) := h ▸ p
end
end K47

set_option Elab.async false
set_option linter.all false
set_option maxRecDepth 100000
set_option maxHeartbeats 4000000
/-! The mathematics: systems, sequences, steps, blocks. No program in sight. -/
namespace K47
open PySem

structure Sys where
  n : Nat
  start : Nat
  cmds : List (List Nat)
def Sys.k (s : Sys) : Nat := s.cmds.length
structure Sys.Wf (s : Sys) : Prop where
  n1 : 1 ≤ s.n
  n8 : s.n ≤ 8
  st : s.start < s.n
  k4 : s.cmds.length ≤ 4
  tl : ∀ t ∈ s.cmds, t.length = s.n
  tx : ∀ t ∈ s.cmds, ∀ x ∈ t, x < s.n
def Sys.nx (s : Sys) (x c : Nat) : Nat := (s.cmds.getD c []).getD x 0
def Sys.led (s : Sys) (x : Nat) (q : List Nat) : Nat := q.foldl s.nx x
theorem getD_at {α : Type} {l : List α} {i : Nat} {d : α} (h : i < l.length) : l.getD i d = l[i] := by
  rw [List.getD_eq_getElem?_getD, List.getElem?_eq_getElem h] <;> rfl
theorem Sys.Wf.nx {s : Sys} (w : s.Wf) {x c : Nat} (hx : x < s.n) (hc : c < s.k) : s.nx x c < s.n := by
  unfold Sys.nx
  have hc' : c < s.cmds.length := hc
  rw [getD_at hc']
  have ht := List.getElem_mem hc'
  have hl : x < (s.cmds[c]).length := by rw [w.tl _ ht]; exact hx
  rw [getD_at hl]
  exact w.tx _ ht _ (List.getElem_mem hl)
/-- all are numbers of commands -/
def Sys.Sq (s : Sys) (q : List Nat) : Prop := ∀ c ∈ q, c < s.k
theorem Sys.Wf.led {s : Sys} (w : s.Wf) : ∀ {q : List Nat} {x : Nat}, x < s.n → s.Sq q → s.led x q < s.n
  | [], x, hx, _ => hx
  | c :: q, x, hx, h => Sys.Wf.led w (q := q) (w.nx hx (h c (List.mem_cons_self ..))) fun d hd => h d (List.mem_cons_of_mem _ hd)
theorem Sys.led_append (s : Sys) (x : Nat) (q r : List Nat) : s.led x (q ++ r) = s.led (s.led x q) r := List.foldl_append ..
theorem Sys.led_snoc (s : Sys) (x : Nat) (q : List Nat) (c : Nat) : s.led x (q ++ [c]) = s.nx (s.led x q) c := by rw [s.led_append]; rfl
theorem Sys.Sq.snoc {s : Sys} {q : List Nat} {c : Nat} (h : s.Sq q) (hc : c < s.k) : s.Sq (q ++ [c]) := fun d hd => by
  rcases List.mem_append.mp hd with z | z
  · exact h d z
  · rw [List.mem_singleton.mp z]; exact hc

/-! ### as data -/
def natD (xs : List Nat) : List D := xs.map fun x : Nat => D.int (x : Int)
theorem natD_length (xs : List Nat) : (natD xs).length = xs.length := List.length_map _
theorem natD_get {xs : List Nat} {i : Nat} {x : Nat} (h : xs[i]? = some x) : (natD xs)[i]? = some (.int (x : Int)) := by
  unfold natD; rw [List.getElem?_map, h]; rfl
theorem natD_append (xs ys : List Nat) : natD (xs ++ ys) = natD xs ++ natD ys := List.map_append
theorem natD_ints (xs : List Nat) : natD xs = (xs.map fun x : Nat => (x : Int)).map D.int := by unfold natD; rw [List.map_map]; rfl
def tabsD (ts : List (List Nat)) : List D := ts.map fun t => D.tup (natD t)
theorem tabsD_length (ts : List (List Nat)) : (tabsD ts).length = ts.length := List.length_map _
def sysD (s : Sys) : D := .tup [.int (s.n : Int), .int (s.start : Int), .tup (tabsD s.cmds)]
theorem rgD_nat (n : Nat) : (List.range n).map (fun i : Nat => D.int (i : Int)) = natD (List.range n) := rfl

/-! ### reachable states -/
inductive Rc (s : Sys) : Nat → Prop where
  | start : Rc s s.start
  | step {x c : Nat} : Rc s x → c < s.k → Rc s (s.nx x c)
theorem Rc.lt {s : Sys} (w : s.Wf) {x : Nat} (h : Rc s x) : x < s.n := by
  induction h with
  | start => exact w.st
  | step _ hc ih => exact w.nx ih hc
theorem Rc.led {s : Sys} : ∀ {q : List Nat} {x : Nat}, Rc s x → s.Sq q → Rc s (s.led x q)
  | [], x, hx, _ => hx
  | c :: q, x, hx, h => Rc.led (q := q) (.step hx (h c (List.mem_cons_self ..))) fun d hd => h d (List.mem_cons_of_mem _ hd)
noncomputable instance rcDec (s : Sys) (x : Nat) : Decidable (Rc s x) := Classical.propDecidable _
noncomputable def Sys.reach (s : Sys) : List Nat := (List.range s.n).filter fun x => decide (Rc s x)
theorem Sys.Wf.mem_reach {s : Sys} (w : s.Wf) {x : Nat} : x ∈ s.reach ↔ Rc s x := by
  unfold Sys.reach
  rw [List.mem_filter, List.mem_range]
  exact ⟨fun h => of_decide_eq_true h.2, fun h => ⟨h.lt w, decide_eq_true h⟩⟩
theorem reach_sorted (s : Sys) : s.reach.Pairwise (· < ·) := by
  unfold Sys.reach
  exact List.Pairwise.filter _ List.pairwise_lt_range
theorem reach_len (s : Sys) : s.reach.length ≤ s.n := by
  unfold Sys.reach
  have := List.length_filter_le (fun x => decide (Rc s x)) (List.range s.n)
  rw [List.length_range] at this
  exact this
theorem Sys.Wf.reach_pos {s : Sys} (w : s.Wf) : 0 < s.reach.length := List.length_pos_of_mem (w.mem_reach.mpr .start)
theorem sorted_unique : ∀ {xs ys : List Nat}, xs.Pairwise (· < ·) → ys.Pairwise (· < ·) → (∀ x, x ∈ xs ↔ x ∈ ys) → xs = ys
  | [], [], _, _, _ => rfl
  | [], y :: ys, _, _, h => by have := (h y).mpr (List.mem_cons_self ..); cases this
  | x :: xs, [], _, _, h => by have := (h x).mp (List.mem_cons_self ..); cases this
  | x :: xs, y :: ys, h1, h2, h => by
    have a1 := List.pairwise_cons.mp h1
    have a2 := List.pairwise_cons.mp h2
    have e : x = y := by
      rcases List.mem_cons.mp ((h x).mp (List.mem_cons_self ..)) with e | hx
      · exact e
      · rcases List.mem_cons.mp ((h y).mpr (List.mem_cons_self ..)) with e | hy
        · exact e.symm
        · have := a2.1 x hx
          have := a1.1 y hy
          omega
    subst e
    congr 1
    refine sorted_unique a1.2 a2.2 fun z => ⟨fun hz => ?_, fun hz => ?_⟩
    · rcases List.mem_cons.mp ((h z).mp (List.mem_cons_of_mem _ hz)) with e | q
      · have := a1.1 z hz; omega
      · exact q
    · rcases List.mem_cons.mp ((h z).mpr (List.mem_cons_of_mem _ hz)) with e | q
      · have := a2.1 z hz; omega
      · exact q

/-! ### steps -/
def sC : Str := "command"
def sA : Str := "action"
theorem sA_ne : ¬ sA = sC := by decide +kernel
/-- the reachable state, the command, the sequence that a datum is -/
noncomputable def Sys.rd (s : Sys) : D → Option Nat
  | .int i => if 0 ≤ i ∧ Rc s i.toNat then some i.toNat else none
  | _ => none
def Sys.cm (s : Sys) : D → Option Nat
  | .int i => if 0 ≤ i ∧ i < s.k then some i.toNat else none
  | _ => none
def Sys.cms (s : Sys) : List D → Option (List Nat)
  | [] => some []
  | d :: ds => match s.cm d, s.cms ds with
    | some c, some q => some (c :: q)
    | _, _ => none
def Sys.sq (s : Sys) : D → Option (List Nat)
  | .tup ds => if ds.length ≤ 64 then s.cms ds else none
  | _ => none
/-- blocks as a list of numbers -/
def bl (B : List Nat) (x : Nat) : Nat := B.getD x 0
noncomputable def Sys.cmdP (s : Sys) (B : List Nat) (a b c : D) : Option (Nat × Nat) :=
  match s.rd a, s.rd b, s.cm c with
  | some x, some y, some m => if bl B x = bl B y then some (s.nx x m, s.nx y m) else none
  | _, _, _ => none
noncomputable def Sys.actP (s : Sys) (B : List Nat) (a c q r : D) : Option (Nat × Nat) :=
  match s.rd a, s.cm c, s.sq q, s.sq r with
  | some x, some m, some u, some v => if bl B (s.led (s.nx x m) u) = bl B (s.led (s.nx x m) v) then some (s.led x u, s.led x v) else none
  | _, _, _, _ => none
noncomputable def Sys.tailP (s : Sys) (B : List Nat) (x : Str) : List D → Option (Nat × Nat)
  | [a, b, c] => if x = sC then s.cmdP B a b c else none
  | [a, c, q, r] => if x = sA then s.actP B a c q r else none
  | _ => none
noncomputable def Sys.pairOf (s : Sys) (B : List Nat) : D → Option (Nat × Nat)
  | .tup (.str x :: ds) => s.tailP B x ds
  | _ => none
def joinB (B : List Nat) (a b : Nat) : List Nat := B.map fun x => if x = bl B b then bl B a else x
noncomputable def Sys.run (s : Sys) (B : List Nat) : List D → Option (List Nat)
  | [] => some B
  | d :: ds => match s.pairOf B d with
    | some p => s.run (joinB B p.1 p.2) ds
    | none => none
noncomputable def Sys.acc (s : Sys) (one other : Nat) : D → Bool
  | .tup ds => decide (ds.length ≤ 100) && match s.run (List.range s.n) ds with
    | some B => decide (bl B one = bl B other)
    | none => false
  | _ => false
def optD : Option (Nat × Nat) → D
  | some p => .tup [.int (p.1 : Int), .int (p.2 : Int)]
  | none => .non

theorem joinB_len (B : List Nat) (a b : Nat) : (joinB B a b).length = B.length := List.length_map _
theorem bl_joinB {B : List Nat} {a b x : Nat} (hx : x < B.length) : bl (joinB B a b) x = if bl B x = bl B b then bl B a else bl B x := by
  unfold bl joinB
  rw [getD_at (by rw [List.length_map]; exact hx), List.getElem_map, getD_at hx]
  rfl
theorem joinB_same {B : List Nat} {a b : Nat} (h : bl B a = bl B b) : joinB B a b = B := by
  unfold joinB
  have : (fun x => if x = bl B b then bl B a else x) = id := by
    funext x
    by_cases e : x = bl B b
    · rw [if_pos e, h, e]; rfl
    · rw [if_neg e]; rfl
  rw [this, List.map_id]

/-! ### stable blocks -/
structure Sys.Stable (s : Sys) (F : List Nat) : Prop where
  len : F.length = s.n
  cmd : ∀ a b c, Rc s a → Rc s b → c < s.k → bl F a = bl F b → bl F (s.nx a c) = bl F (s.nx b c)
  act : ∀ a c q r, Rc s a → c < s.k → s.Sq q → s.Sq r → bl F (s.led (s.nx a c) q) = bl F (s.led (s.nx a c) r) → bl F (s.led a q) = bl F (s.led a r)
def Ref (n : Nat) (B F : List Nat) : Prop := ∀ x y, x < n → y < n → bl B x = bl B y → bl F x = bl F y
theorem Sys.rd_int (s : Sys) (i : Int) : s.rd (.int i) = if 0 ≤ i ∧ Rc s i.toNat then some i.toNat else none := rfl
theorem Sys.cm_int (s : Sys) (i : Int) : s.cm (.int i) = if 0 ≤ i ∧ i < s.k then some i.toNat else none := rfl
theorem Sys.sq_tup (s : Sys) (ds : List D) : s.sq (.tup ds) = if ds.length ≤ 64 then s.cms ds else none := rfl
theorem Sys.rd_some {s : Sys} {d : D} {x : Nat} (h : s.rd d = some x) : Rc s x := by
  cases d with
  | int i =>
    rw [Sys.rd_int] at h
    by_cases c : 0 ≤ i ∧ Rc s i.toNat
    · rw [if_pos c] at h; cases h; exact c.2
    · rw [if_neg c] at h; cases h
  | _ => cases h
theorem Sys.cm_some {s : Sys} {d : D} {x : Nat} (h : s.cm d = some x) : x < s.k := by
  cases d with
  | int i =>
    rw [Sys.cm_int] at h
    by_cases c : 0 ≤ i ∧ i < s.k
    · rw [if_pos c] at h; cases h; omega
    · rw [if_neg c] at h; cases h
  | _ => cases h
theorem Sys.cms_some {s : Sys} : ∀ {ds : List D} {q : List Nat}, s.cms ds = some q → s.Sq q
  | [], q, h => by cases h; intro c hc; cases hc
  | d :: ds, q, h => by
    unfold Sys.cms at h
    split at h
    · rename_i c r h1 h2
      cases h
      intro x hx
      rcases List.mem_cons.mp hx with e | z
      · rw [e]; exact Sys.cm_some h1
      · exact Sys.cms_some h2 x z
    · cases h
theorem Sys.sq_some {s : Sys} {d : D} {q : List Nat} (h : s.sq d = some q) : s.Sq q := by
  cases d with
  | tup ds =>
    rw [Sys.sq_tup] at h
    by_cases c : ds.length ≤ 64
    · rw [if_pos c] at h; exact Sys.cms_some h
    · rw [if_neg c] at h; cases h
  | _ => cases h
theorem Sys.Wf.pairOf_lt {s : Sys} (w : s.Wf) {B : List Nat} {d : D} {p : Nat × Nat} (h : s.pairOf B d = some p) : p.1 < s.n ∧ p.2 < s.n := by
  unfold Sys.pairOf at h
  split at h
  · unfold Sys.tailP at h
    split at h
    · split at h
      · unfold Sys.cmdP at h
        split at h
        · rename_i h1 h2 h3
          split at h
          · cases h
            exact ⟨w.nx ((Sys.rd_some h1).lt w) (Sys.cm_some h3), w.nx ((Sys.rd_some h2).lt w) (Sys.cm_some h3)⟩
          · cases h
        · cases h
      · cases h
    · split at h
      · unfold Sys.actP at h
        split at h
        · rename_i h1 h2 h3 h4
          split at h
          · cases h
            exact ⟨w.led ((Sys.rd_some h1).lt w) (Sys.sq_some h3), w.led ((Sys.rd_some h1).lt w) (Sys.sq_some h4)⟩
          · cases h
        · cases h
      · cases h
    · cases h
  · cases h
theorem Sys.pairOf_sound {s : Sys} (w : s.Wf) {B F : List Nat} (hF : s.Stable F) (hr : Ref s.n B F) {d : D} {p : Nat × Nat} (h : s.pairOf B d = some p) : bl F p.1 = bl F p.2 := by
  unfold Sys.pairOf at h
  split at h
  · unfold Sys.tailP at h
    split at h
    · split at h
      · unfold Sys.cmdP at h
        split at h
        · rename_i h1 h2 h3
          split at h
          · rename_i hb
            cases h
            exact hF.cmd _ _ _ (Sys.rd_some h1) (Sys.rd_some h2) (Sys.cm_some h3) (hr _ _ ((Sys.rd_some h1).lt w) ((Sys.rd_some h2).lt w) hb)
          · cases h
        · cases h
      · cases h
    · split at h
      · unfold Sys.actP at h
        split at h
        · rename_i h1 h2 h3 h4
          split at h
          · rename_i hb
            cases h
            have hx := w.nx ((Sys.rd_some h1).lt w) (Sys.cm_some h2)
            exact hF.act _ _ _ _ (Sys.rd_some h1) (Sys.cm_some h2) (Sys.sq_some h3) (Sys.sq_some h4) (hr _ _ (w.led hx (Sys.sq_some h3)) (w.led hx (Sys.sq_some h4)) hb)
          · cases h
        · cases h
      · cases h
    · cases h
  · cases h
theorem Ref.join {n : Nat} {B F : List Nat} (hl : B.length = n) (hr : Ref n B F) {a b : Nat} (ha : a < n) (hb : b < n) (h : bl F a = bl F b) : Ref n (joinB B a b) F := fun x y hx hy e => by
  rw [bl_joinB (by rw [hl]; exact hx), bl_joinB (by rw [hl]; exact hy)] at e
  by_cases e1 : bl B x = bl B b
  · rw [if_pos e1] at e
    by_cases e2 : bl B y = bl B b
    · exact hr x y hx hy (e1.trans e2.symm)
    · rw [if_neg e2] at e
      exact (hr x b hx hb e1).trans (h.symm.trans (hr a y ha hy e))
  · rw [if_neg e1] at e
    by_cases e2 : bl B y = bl B b
    · rw [if_pos e2] at e
      exact (hr x a hx ha e).trans (h.trans (hr b y hb hy e2.symm))
    · rw [if_neg e2] at e
      exact hr x y hx hy e
theorem Sys.run_sound {s : Sys} (w : s.Wf) {F : List Nat} (hF : s.Stable F) : ∀ {ds : List D} {B B' : List Nat}, B.length = s.n → Ref s.n B F → s.run B ds = some B' → Ref s.n B' F ∧ B'.length = s.n
  | [], B, B', hl, hr, h => by cases h; exact ⟨hr, hl⟩
  | d :: ds, B, B', hl, hr, h => by
    unfold Sys.run at h
    split at h
    · rename_i p hp
      obtain ⟨p1, p2⟩ := w.pairOf_lt hp
      exact Sys.run_sound w hF (by rw [joinB_len]; exact hl) (hr.join hl p1 p2 (Sys.pairOf_sound w hF hr hp)) h
    · cases h
theorem bl_range {n x : Nat} (h : x < n) : bl (List.range n) x = x := by
  unfold bl
  rw [getD_at (by rw [List.length_range]; exact h), List.getElem_range]
theorem Ref.range {n : Nat} {F : List Nat} : Ref n (List.range n) F := fun x y hx hy e => by
  rw [bl_range hx, bl_range hy] at e; rw [e]
/-- what is accepted is together in every stable blocks -/
theorem Sys.acc_sound {s : Sys} (w : s.Wf) {F : List Nat} (hF : s.Stable F) {one other : Nat} (h1 : one < s.n) (h2 : other < s.n) {d : D} (h : s.acc one other d = true) : bl F one = bl F other := by
  unfold Sys.acc at h
  split at h
  · obtain ⟨_, h⟩ := Bool.and_eq_true_iff.mp h
    split at h
    · rename_i B hB
      obtain ⟨hr, _⟩ := Sys.run_sound w hF List.length_range Ref.range hB
      exact hr _ _ h1 h2 (of_decide_eq_true h)
    · cases h
  · cases h
theorem Sys.run_cons (s : Sys) (B : List Nat) (d : D) (ds : List D) : s.run B (d :: ds) = match s.pairOf B d with | some p => s.run (joinB B p.1 p.2) ds | none => none := rfl
theorem Sys.run_append {s : Sys} : ∀ {ds es : List D} {B : List Nat}, s.run B (ds ++ es) = (s.run B ds).bind fun C => s.run C es
  | [], es, B => rfl
  | d :: ds, es, B => by
    rw [List.cons_append, Sys.run_cons, Sys.run_cons]
    cases s.pairOf B d with
    | none => rfl
    | some p => exact Sys.run_append
end K47

set_option Elab.async false
set_option linter.all false
set_option maxRecDepth 100000
set_option maxHeartbeats 4000000
namespace K47
open PySem L2
local macro_rules | `(tactic| walk_at "w1") => `(tactic| first
  | with_reducible refine ws_seq ?_
  | with_reducible refine ws_ret ?_
  | with_reducible refine ws_asg ?_
  | with_reducible refine ws_drop ?_
  | with_reducible refine ws_if ?_
  | with_reducible refine ws_next ?_
  | ((with_reducible refine' we_var ?hv ?_); (case hv => exact rfl))
  | with_reducible refine we_int ?_
  | with_reducible refine we_bl ?_
  | with_reducible refine we_non ?_
  | with_reducible refine we_str ?_
  | with_reducible refine we_callP ?_
  | with_reducible refine we_isi (by decide) ?_
  | with_reducible refine we_cb ?_
  | with_reducible refine we_op ?_
  | with_reducible refine we_un ?_
  | with_reducible refine we_chain ?_
  | with_reducible refine we_andV ?_
  | with_reducible refine we_orV ?_
  | with_reducible refine we_notV ?_
  | with_reducible refine we_if ?_
  | with_reducible refine we_tup ?_
  | with_reducible refine we_lst ?_
  | with_reducible refine wa_nil ?_
  | with_reducible refine wa_cons ?_
  | with_reducible refine wt_test ?_
  | with_reducible refine wt_B ?_
  | with_reducible refine wt_not ?_
  | with_reducible refine wt_and ?_
  | with_reducible refine wt_or ?_
  | with_reducible refine wt_yes ?_
  | with_reducible refine wt_truK ?_)
local macro_rules | `(tactic| walk_at "w") => `(tactic| repeat walk_at "w1")
section
variable {P : Program} {w : World} {K : PySem.W.Frag} {mg : Str → Option Value} {base : Heap}
theorem sc_is_whole : FnScope ["value", "low", "high"] ["value", "low", "high"] (defScope s_is_whole) := ⟨rfl, rfl, rfl, by decide +kernel, rfl, by decide +kernel, by decide +kernel⟩
def isW : D → Int → Int → Bool
  | .int i, lo, hi => decide (lo ≤ i) && decide (i ≤ hi)
  | _, _, _ => false
theorem isW_int (i lo hi : Int) : isW (.int i) lo hi = (decide (lo ≤ i) && decide (i ≤ hi)) := rfl
theorem isW_yes {i lo hi : Int} (h1 : lo ≤ i) (h2 : i ≤ hi) : isW (.int i) lo hi = true := by rw [isW_int, decide_eq_true h1, decide_eq_true h2]; rfl
def T_is_whole : List D → (Cell → Prop) → Prop := fun ds Q => ∃ d lo hi, ds = [d, .int lo, .int hi] ∧ Q (.imm (.bl (isW d lo hi)))
theorem len_is_whole : ∀ ds Q, T_is_whole ds Q → ds.length = 3 := fun ds Q ⟨d, lo, hi, h, _⟩ => by rw [h]; rfl
theorem ok_is_whole {f : Addr} {fd : FuncData} (T : Txt K mg) (F : FnP K "is_whole" s_is_whole f fd) : FnOk P w K mg base CX0 1 f fd ["value", "low", "high"] (spP T_is_whole) := by
  refine F.ok sc_is_whole (fun vs H Q E h => len_P len_is_whole h) (fun cdv A outer s H vs Q E hr h => ?_)
  have hu := hu_of hr
  refine ⟨_, PSs.nox (pss_one
      (ps_ret (pe_and (pe_callB (isiK K) (by rfl) T.b_isinstance bt_isinstance (pa_cons (pv 0) (pa_cons (pe_bltn (v := .ty "int") (by rfl) T.b_int bt_int rfl) pa_nil))) (pe_and (pe_not (pe_callB (isiK K) (by rfl) T.b_isinstance bt_isinstance (pa_cons (pv 0) (pa_cons (pe_bltn (v := .ty "bool") (by rfl) T.b_bool bt_bool rfl) pa_nil)))) (pe_one (pe_chain op_le op_le (pv 1) (pv 0) (pv 2))))))), ?_⟩
  refine body_P h fun ds Q hT => ?_
  obtain ⟨d, lo, hi, rfl, q⟩ := hT
  walk_at "w"
  cases d with
  | int i =>
    rw [isW_int] at q
    refine ⟨true, rfl, fun _ => ?_, fun z => by cases z⟩
    walk_at "w"
    refine ⟨false, rfl, ?_⟩
    refine ⟨true, rfl, fun _ => ?_, fun z => by cases z⟩
    walk_at "w"
    refine rd_B0 ⟨_, rfl, fun h => ?_, fun h => ?_⟩
    · walk_at "w"
      refine rd_B0 ?_
      rw [h] at q; exact q
    · rw [h] at q; exact q
  | bl b =>
    refine ⟨true, rfl, fun _ => ?_, fun z => by cases z⟩
    walk_at "w"
    refine ⟨true, rfl, ?_⟩
    exact ⟨false, rfl, (fun z => by cases z), fun _ => q⟩
  | _ => exact ⟨false, rfl, (fun z => by cases z), fun _ => q⟩
theorem sc_step : FnScope ["system", "state", "command"] ["system", "state", "command"] (defScope s_step) := ⟨rfl, rfl, rfl, by decide +kernel, rfl, by decide +kernel, by decide +kernel⟩
def T_step : List D → (Cell → Prop) → Prop := fun ds Q => ∃ (s : Sys) (x c : Nat), ds = [sysD s, .int (x : Int), .int (c : Int)] ∧ s.Wf ∧ x < s.n ∧ c < s.k ∧ Q (.imm (.int (s.nx x c : Int)))
theorem len_step : ∀ ds Q, T_step ds Q → ds.length = 3 := fun ds Q ⟨s, x, c, h, _⟩ => by rw [h]; rfl
theorem tab_at {s : Sys} {c : Nat} (hc : c < s.k) : atI (tabsD s.cmds) (c : Int) = some (.tup (natD (s.cmds.getD c []))) := by
  have hc' : c < s.cmds.length := hc
  refine atI_nat ?_
  unfold tabsD
  rw [List.getElem?_map, List.getElem?_eq_getElem hc', getD_at hc']
  rfl
theorem nx_at {s : Sys} (hw : s.Wf) {x c : Nat} (hx : x < s.n) (hc : c < s.k) : atI (natD (s.cmds.getD c [])) (x : Int) = some (.int (s.nx x c : Int)) := by
  have hc' : c < s.cmds.length := hc
  have hl : x < (s.cmds.getD c []).length := by rw [getD_at hc', hw.tl _ (List.getElem_mem hc')]; exact hx
  refine atI_nat (natD_get ?_)
  unfold Sys.nx
  rw [List.getElem?_eq_getElem hl, getD_at hl]
theorem ok_step {f : Addr} {fd : FuncData} (T : Txt K mg) (F : FnP K "step" s_step f fd) : FnOk P w K mg base CX0 1 f fd ["system", "state", "command"] (spP T_step) := by
  refine F.ok sc_step (fun vs H Q E h => len_P len_step h) (fun cdv A outer s H vs Q E hr h => ?_)
  have hu := hu_of hr
  refine ⟨_, PSs.nox (pss_one
      (ps_ret (pe_ix (ixK K) (pe_ix (ixK K) (pe_ix (ixK K) (pv 0) pe_int (fun _ _ => rfl)) (pv 2) (fun _ _ => rfl)) (pv 1) (fun _ _ => rfl)))), ?_⟩
  refine body_P h fun ds Q hT => ?_
  obtain ⟨s, x, c, rfl, hw, hx, hc, q⟩ := hT
  walk_at "w"
  refine rd_ixT (d := .tup (tabsD s.cmds)) rfl ?_
  walk_at "w"
  refine rd_ixT (tab_at hc) ?_
  walk_at "w"
  exact rd_ixT (nx_at hw hx hc) q
theorem sc_is_command : FnScope ["system", "value"] ["system", "value"] (defScope s_is_command) := ⟨rfl, rfl, rfl, by decide +kernel, rfl, by decide +kernel, by decide +kernel⟩
def T_is_command : List D → (Cell → Prop) → Prop := fun ds Q => ∃ (s : Sys) (d : D), ds = [sysD s, d] ∧ Q (.imm (.bl (isW d 0 ((s.k : Int) - 1))))
theorem len_is_command : ∀ ds Q, T_is_command ds Q → ds.length = 2 := fun ds Q ⟨s, d, h, _⟩ => by rw [h]; rfl
theorem ok_is_command {f : Addr} {fd : FuncData} (T : Txt K mg) (F : FnP K "is_command" s_is_command f fd) {f_is_whole : Addr} {fd_is_whole : FuncData} (c_is_whole : Cal P w K mg base "is_whole" 1 ["value", "low", "high"] (spP T_is_whole) f_is_whole fd_is_whole) : FnOk P w K mg base CX0 2 f fd ["system", "value"] (spP T_is_command) := by
  refine F.ok sc_is_command (fun vs H Q E h => len_P len_is_command h) (fun cdv A outer s H vs Q E hr h => ?_)
  have hu := hu_of hr
  refine ⟨_, PSs.nox (pss_one
      (ps_ret (pe_call c_is_whole.G (hr.mono (by decide)) rfl c_is_whole.m c_is_whole.kp c_is_whole.b .nil pass0 (pa_cons (pv 1) (pa_cons pe_int (pa_cons (pe_op op_sub (pe_callB (lenK K) (by rfl) T.b_len bt_len (pa_cons (pe_ix (ixK K) (pv 0) pe_int (fun _ _ => rfl)) pa_nil)) pe_int) pa_nil)))))), ?_⟩
  refine body_P h fun ds Q hT => ?_
  obtain ⟨s, d, rfl, q⟩ := hT
  walk_at "w"
  refine rd_ixT (d := .tup (tabsD s.cmds)) rfl ?_
  walk_at "w"
  refine rc_len (.inl rfl) ?_
  walk_at "w"
  refine rd_I0 (g := fun i j => i - j) ?_
  walk_at "w"
  refine ⟨_, _, _, rfl, _, rfl, ?_⟩
  rw [tabsD_length]
  exact q
theorem sc_led : FnScope ["system", "state", "sequence", "here", "command"] ["system", "state", "sequence"] (defScope s_led) := ⟨rfl, rfl, rfl, by decide +kernel, rfl, by decide +kernel, by decide +kernel⟩
def T_led : List D → (Cell → Prop) → Prop := fun ds Q => ∃ (s : Sys) (x : Nat) (q : List Nat), ds = [sysD s, .int (x : Int), .tup (natD q)] ∧ s.Wf ∧ x < s.n ∧ s.Sq q ∧ Q (.imm (.int (s.led x q : Int)))
theorem len_led : ∀ ds Q, T_led ds Q → ds.length = 3 := fun ds Q ⟨s, x, c, h, _⟩ => by rw [h]; rfl
theorem natD_at {q : List Nat} {i : Nat} {d : D} (h : (natD q)[i]? = some d) : ∃ c, q[i]? = some c ∧ d = .int (c : Int) := by
  unfold natD at h
  rw [List.getElem?_map] at h
  cases e : q[i]? with
  | none => rw [e] at h; cases h
  | some c => rw [e] at h; exact ⟨c, rfl, (Option.some.inj h).symm⟩
theorem take_snoc {α : Type} {q : List α} {i : Nat} {c : α} (h : q[i]? = some c) : q.take (i + 1) = q.take i ++ [c] := by
  rw [List.take_succ, h]
  rfl
theorem Sys.Sq.take {s : Sys} {q : List Nat} (h : s.Sq q) (i : Nat) : s.Sq (q.take i) := fun c hc => h c (List.mem_of_mem_take hc)
theorem ok_led {f : Addr} {fd : FuncData} (T : Txt K mg) (F : FnP K "led" s_led f fd) {f_step : Addr} {fd_step : FuncData} (c_step : Cal P w K mg base "step" 1 ["system", "state", "command"] (spP T_step) f_step fd_step) : FnOk P w K mg base CX0 2 f fd ["system", "state", "sequence"] (spP T_led) := by
  refine F.ok sc_led (fun vs H Q E h => len_P len_led h) (fun cdv A outer s H vs Q E hr h => ?_)
  have hu := hu_of hr
  refine ⟨_, PSs.nox (pss_cons
      (ps_set (i := 3) sc_led.nd rfl (by first | exact Or.inl rfl | exact Or.inr rfl) (pv 1))
      (pss_cons
      (ps_for PassesOwn.never rfl (piTK K (pv 2)) (pg_name (i := 4) sc_led.nd rfl (by first | exact Or.inl rfl | exact Or.inr rfl)) (pss_one
       (ps_set (i := 3) sc_led.nd rfl (by first | exact Or.inl rfl | exact Or.inr rfl) (pe_call c_step.G (hr.mono (by decide)) rfl c_step.m c_step.kp c_step.b .nil pass0 (pa_cons (pv 0) (pa_cons (pv 3) (pa_cons (pv 4) pa_nil)))))))
      (pss_one
      (ps_ret (pv 3))))), ?_⟩
  refine body_P h fun ds Q hT => ?_
  obtain ⟨s, x, q, rfl, hw, hx, hq, k⟩ := hT
  walk_at "w"
  refine ws_for (wi_tup (we_var (d := .tup (natD q)) rfl ⟨_, rfl, fun i ρ' => ∃ c, ρ' = [some (.imm (sysD s)), some (.imm (.int (x : Int))), some (.imm (.tup (natD q))), some (.imm (.int (s.led x (q.take i) : Int))), c], ⟨_, rfl⟩, ?_, ?_⟩))
  · rintro i d ρ' hd ⟨c, rfl⟩
    obtain ⟨m, hm, rfl⟩ := natD_at hd
    refine wg_name ?_
    walk_at "w"
    refine ⟨s, _, m, rfl, hw, hw.led hx (hq.take i), hq m (List.mem_of_getElem? hm), _, rfl, ?_⟩
    refine ⟨some (.imm (.int (m : Int))), ?_⟩
    rw [take_snoc hm, s.led_snoc]
    rfl
  · rintro ρ' ⟨c, rfl⟩
    walk_at "w"
    rw [natD_length, List.take_length]
    exact k
theorem sc_law_led : FnScope ["_law_system_here", "_law_state", "_law_sequence_here", "_law_command"] ["_law_system_here", "_law_state", "_law_sequence_here"] (defScope s_law_led) := ⟨rfl, rfl, rfl, by decide +kernel, rfl, by decide +kernel, by decide +kernel⟩
def T_law_led : List D → (Cell → Prop) → Prop := fun ds Q => ∃ (s : Sys) (x : Nat) (q : List Nat), ds = [sysD s, .int (x : Int), .tup (natD q)] ∧ s.Wf ∧ x < s.n ∧ s.Sq q ∧ Q (.imm (.int (s.led x q : Int)))
theorem len_law_led : ∀ ds Q, T_law_led ds Q → ds.length = 3 := fun ds Q ⟨s, x, c, h, _⟩ => by rw [h]; rfl
theorem ok_law_led {f : Addr} {fd : FuncData} (T : Txt K mg) (F : FnP K "_law_led" s_law_led f fd) : FnOk P w K mg base CX0 1 f fd ["_law_system_here", "_law_state", "_law_sequence_here"] (spP T_law_led) := by
  refine F.ok sc_law_led (fun vs H Q E h => len_P len_law_led h) (fun cdv A outer s H vs Q E hr h => ?_)
  have hu := hu_of hr
  refine ⟨_, PSs.nox (pss_cons
      (ps_for PassesOwn.never rfl (piTK K (pv 2)) (pg_name (i := 3) sc_law_led.nd rfl (by first | exact Or.inl rfl | exact Or.inr rfl)) (pss_one
       (ps_set (i := 1) sc_law_led.nd rfl (by first | exact Or.inl rfl | exact Or.inr rfl) (pe_ix (ixK K) (pe_ix (ixK K) (pe_ix (ixK K) (pv 0) pe_int (fun _ _ => rfl)) (pv 3) (fun _ _ => rfl)) (pv 1) (fun _ _ => rfl)))))
      (pss_one
      (ps_ret (pv 1)))), ?_⟩
  refine body_P h fun ds Q hT => ?_
  obtain ⟨s, x, q, rfl, hw, hx, hq, k⟩ := hT
  refine ws_seq (ws_for (wi_tup (we_var (d := .tup (natD q)) rfl ⟨_, rfl, fun i ρ' => ∃ c, ρ' = [some (.imm (sysD s)), some (.imm (.int (s.led x (q.take i) : Int))), some (.imm (.tup (natD q))), c], ⟨_, rfl⟩, ?_, ?_⟩)))
  · rintro i d ρ' hd ⟨c, rfl⟩
    obtain ⟨m, hm, rfl⟩ := natD_at hd
    refine wg_name ?_
    walk_at "w"
    refine rd_ixT (d := .tup (tabsD s.cmds)) rfl ?_
    walk_at "w"
    refine rd_ixT (tab_at (hq m (List.mem_of_getElem? hm))) ?_
    walk_at "w"
    refine rd_ixT (nx_at hw (hw.led hx (hq.take i)) (hq m (List.mem_of_getElem? hm))) ?_
    refine ⟨some (.imm (.int (m : Int))), ?_⟩
    rw [take_snoc hm, s.led_snoc]
    rfl
  · rintro ρ' ⟨c, rfl⟩
    walk_at "w"
    rw [natD_length, List.take_length]
    exact k
theorem sc_is_system : FnScope ["value", "states", "start", "commands", "command", "state"] ["value"] (defScope s_is_system) := ⟨rfl, rfl, rfl, by decide +kernel, rfl, by decide +kernel, by decide +kernel⟩
def T_is_system : List D → (Cell → Prop) → Prop := fun ds Q => ∃ (s : Sys), ds = [sysD s] ∧ s.Wf ∧ Q (.imm (.bl true))
theorem len_is_system : ∀ ds Q, T_is_system ds Q → ds.length = 1 := fun ds Q ⟨s, h, _⟩ => by rw [h]; rfl
theorem tabs_at {ts : List (List Nat)} {i : Nat} {d : D} (h : (tabsD ts)[i]? = some d) : ∃ t, ts[i]? = some t ∧ d = .tup (natD t) := by
  unfold tabsD at h
  rw [List.getElem?_map] at h
  cases e : ts[i]? with
  | none => rw [e] at h; cases h
  | some c => rw [e] at h; exact ⟨c, rfl, (Option.some.inj h).symm⟩
theorem ok_is_system {f : Addr} {fd : FuncData} (T : Txt K mg) (F : FnP K "is_system" s_is_system f fd) {f_is_whole : Addr} {fd_is_whole : FuncData} (c_is_whole : Cal P w K mg base "is_whole" 1 ["value", "low", "high"] (spP T_is_whole) f_is_whole fd_is_whole) : FnOk P w K mg base CX0 2 f fd ["value"] (spP T_is_system) := by
  refine F.ok sc_is_system (fun vs H Q E h => len_P len_is_system h) (fun cdv A outer s H vs Q E hr h => ?_)
  have hu := hu_of hr
  obtain ⟨t_MOST_STATES, k_MOST_STATES⟩ := T.k_MOST_STATES
  obtain ⟨t_MOST_COMMANDS, k_MOST_COMMANDS⟩ := T.k_MOST_COMMANDS
  refine ⟨_, PSs.nox (pss_cons
      (ps_if (PW.pt (pw_or (pt_not (pt_val (pe_callB (isiK K) (by rfl) T.b_isinstance bt_isinstance (pa_cons (pv 0) (pa_cons (pe_bltn (v := .ty "tuple") (by rfl) T.b_tuple bt_tuple rfl) pa_nil))))) (pw_or (pt_cmpR op_ne (pe_callB (lenK K) (by rfl) T.b_len bt_len (pa_cons (pv 0) pa_nil)) pe_int (nomark _)) (pw_or1 (pt_not (pt_val (pe_call c_is_whole.G (hr.mono (by decide)) rfl c_is_whole.m c_is_whole.kp c_is_whole.b .nil pass0 (pa_cons (pe_ix (ixK K) (pv 0) pe_int (fun _ _ => rfl)) (pa_cons pe_int (pa_cons (pe_glob (v := .int 8) rfl k_MOST_STATES ⟨_, rfl⟩) pa_nil)))))))))) (pss_one
       (ps_ret pe_bl)) pss_nil)
      (pss_cons
      (ps_asg (pv 0) (tupTK K (n := 3) rfl (pgs_cons (pg_name (i := 1) sc_is_system.nd rfl (by first | exact Or.inl rfl | exact Or.inr rfl)) (pgs_cons (pg_name (i := 2) sc_is_system.nd rfl (by first | exact Or.inl rfl | exact Or.inr rfl)) (pgs_cons (pg_name (i := 3) sc_is_system.nd rfl (by first | exact Or.inl rfl | exact Or.inr rfl)) pgs_nil)))))
      (pss_cons
      (ps_if (PW.pt (pw_or (pt_not (pt_val (pe_call c_is_whole.G (hr.mono (by decide)) rfl c_is_whole.m c_is_whole.kp c_is_whole.b .nil pass0 (pa_cons (pv 2) (pa_cons pe_int (pa_cons (pe_op op_sub (pv 1) pe_int) pa_nil)))))) (pw_or (pt_not (pt_val (pe_callB (isiK K) (by rfl) T.b_isinstance bt_isinstance (pa_cons (pv 3) (pa_cons (pe_bltn (v := .ty "tuple") (by rfl) T.b_tuple bt_tuple rfl) pa_nil))))) (pw_or1 (pt_cmpR op_gt (pe_callB (lenK K) (by rfl) T.b_len bt_len (pa_cons (pv 3) pa_nil)) (pe_glob (v := .int 4) rfl k_MOST_COMMANDS ⟨_, rfl⟩) (nomark _)))))) (pss_one
       (ps_ret pe_bl)) pss_nil)
      (pss_cons
      (ps_for PassesOwn.never rfl (piTK K (pv 3)) (pg_name (i := 4) sc_is_system.nd rfl (by first | exact Or.inl rfl | exact Or.inr rfl)) (pss_cons
       (ps_if (PW.pt (pw_or (pt_not (pt_val (pe_callB (isiK K) (by rfl) T.b_isinstance bt_isinstance (pa_cons (pv 4) (pa_cons (pe_bltn (v := .ty "tuple") (by rfl) T.b_tuple bt_tuple rfl) pa_nil))))) (pw_or1 (pt_cmpR op_ne (pe_callB (lenK K) (by rfl) T.b_len bt_len (pa_cons (pv 4) pa_nil)) (pv 1) (nomark _))))) (pss_one
        (ps_ret pe_bl)) pss_nil)
       (pss_one
       (ps_if (pt_not (pt_val (pe_callB (allK K rfl) (by rfl) T.b_all bt_all (pa_cons (pe_lc (own := [("state", 5)]) (g := gName 5) rfl sc_is_system.nd (piTK K (pv 4)) (blkOk_by (own := [("state", 5)]) (N := ["value", "states", "start", "commands", "command", "state"]) (sc := defScope s_is_system) (by decide +kernel)) (fun _ _ _ _ _ => (pg_name (i := 5) sc_is_system.nd rfl (by first | exact Or.inl rfl | exact Or.inr rfl))) (fun _ _ _ _ _ => pts_nil) (fun _ _ _ _ _ => (pe_call c_is_whole.G (hr.mono (by decide)) rfl c_is_whole.m c_is_whole.kp c_is_whole.b .nil pass0 (pa_cons (pv 5) (pa_cons pe_int (pa_cons (pe_op op_sub (pv 1) pe_int) pa_nil)))))) pa_nil)))) (pss_one
        (ps_ret pe_bl)) pss_nil))))
      (pss_one
      (ps_ret pe_bl)))))), ?_⟩
  refine body_P h fun ds Q hT => ?_
  obtain ⟨s, rfl, hw, k⟩ := hT
  refine ws_seq (ws_ifF (wt_orF ?_))
  walk_at "w"
  refine ⟨true, rfl, rfl, ?_⟩
  refine wt_orF ?_
  walk_at "w"
  refine rc_len (.inl rfl) ?_
  walk_at "w"
  refine rd_neI ⟨_, rfl, by simp, ?_⟩
  walk_at "w"
  refine rd_ixT (d := .int (s.n : Int)) rfl ?_
  walk_at "w"
  refine ⟨_, _, _, rfl, _, rfl, _, rfl, ?_⟩
  have h1 := hw.n1
  have h8 := hw.n8
  refine ⟨by rw [isW_yes (by omega) (by omega)]; rfl, ?_⟩
  walk_at "w"
  refine ws_asgG (we_var (d := sysD s) rfl (wg_tup rfl (wgs_cons (wg_name (wgs_cons (wg_name (wgs_cons (wg_name (wgs_nil ?_)))))))))
  refine ws_seq (ws_ifF (wt_orF ?_))
  walk_at "w"
  refine rd_I0 (g := fun i j => i - j) ?_
  walk_at "w"
  refine ⟨_, _, _, rfl, _, rfl, _, rfl, ?_⟩
  have hst := hw.st
  refine ⟨by rw [isW_yes (by omega) (by omega)]; rfl, ?_⟩
  refine wt_orF ?_
  walk_at "w"
  refine ⟨true, rfl, rfl, ?_⟩
  walk_at "w"
  refine rc_len (.inl rfl) ?_
  walk_at "w"
  refine rd_B0 ⟨_, rfl, ?_, ?_⟩
  · have := hw.k4
    rw [tabsD_length]
    exact decide_eq_false (by omega)
  walk_at "w"
  refine ws_for (wi_tup (we_var (d := .tup (tabsD s.cmds)) rfl ⟨_, rfl, fun i ρ' => ∃ c e, ρ' = [some (.imm (sysD s)), some (.imm (.int (s.n : Int))), some (.imm (.int (s.start : Int))), some (.imm (.tup (tabsD s.cmds))), c, e], ⟨_, _, rfl⟩, ?_, ?_⟩))
  · rintro i d ρ' hd ⟨c, e, rfl⟩
    obtain ⟨t, ht, rfl⟩ := tabs_at hd
    have htm := List.mem_of_getElem? ht
    refine wg_name ?_
    refine ws_seq (ws_ifF (wt_orF ?_))
    walk_at "w"
    refine ⟨true, rfl, rfl, ?_⟩
    walk_at "w"
    refine rc_len (.inl rfl) ?_
    walk_at "w"
    refine rd_neI ⟨_, rfl, ?_, ?_⟩
    · rw [natD_length, hw.tl t htm, decide_eq_true rfl]; rfl
    walk_at "w"
    refine we_lc (wi_tup (we_var (d := .tup (natD t)) rfl ⟨_, rfl, fun i acc ρ' => acc = List.replicate i (.bl true) ∧ ρ' = [some (.imm (sysD s)), some (.imm (.int (s.n : Int))), some (.imm (.int (s.start : Int))), some (.imm (.tup (tabsD s.cmds))), some (.imm (.tup (natD t))), none], ?_, ⟨rfl, rfl⟩, ?_, ?_⟩))
    · rw [natD_length, hw.tl t htm]; omega
    · rintro j d acc ρ' hd ⟨rfl, rfl⟩
      obtain ⟨x, hx, rfl⟩ := natD_at hd
      have hxl := hw.tx t htm x (List.mem_of_getElem? hx)
      refine wgv_name (by decide) ?_
      refine wt_yes ⟨fun _ => ?_, fun z => by cases z⟩
      walk_at "w"
      refine rd_I0 (g := fun i j => i - j) ?_
      walk_at "w"
      refine ⟨_, _, _, rfl, _, rfl, ?_⟩
      refine ⟨?_, rfl⟩
      rw [isW_yes (by omega) (by omega), List.replicate_succ']
    · rintro acc ρ' ⟨rfl, rfl⟩
      walk_at "w"
      refine rc_all (bs := List.replicate (natD t).length true) (by rw [List.map_replicate]) ?_
      refine ⟨_, rfl, fun z => ?_, fun _ => ?_⟩
      · exfalso
        simp at z
      · exact ws_next ⟨_, _, rfl⟩
  · rintro ρ' ⟨c, e, rfl⟩
    walk_at "w"
    exact k
theorem sc_check_system : FnScope ["system"] ["system"] (defScope s_check_system) := ⟨rfl, rfl, rfl, by decide +kernel, rfl, by decide +kernel, by decide +kernel⟩
def T_check_system : List D → (Cell → Prop) → Prop := fun ds Q => ∃ (s : Sys), ds = [sysD s] ∧ s.Wf ∧ Q (.imm .non)
theorem len_check_system : ∀ ds Q, T_check_system ds Q → ds.length = 1 := fun ds Q ⟨s, h, _⟩ => by rw [h]; rfl
theorem ok_check_system {f : Addr} {fd : FuncData} (T : Txt K mg) (F : FnP K "check_system" s_check_system f fd) {f_is_system : Addr} {fd_is_system : FuncData} (c_is_system : Cal P w K mg base "is_system" 2 ["value"] (spP T_is_system) f_is_system fd_is_system) : FnOk P w K mg base CX0 3 f fd ["system"] (spP T_check_system) := by
  refine F.ok sc_check_system (fun vs H Q E h => len_P len_check_system h) (fun cdv A outer s H vs Q E hr h => ?_)
  have hu := hu_of hr
  refine ⟨_, PSs.nox (pss_one
      (ps_if (pt_not (pt_val (pe_call c_is_system.G (hr.mono (by decide)) rfl c_is_system.m c_is_system.kp c_is_system.b .nil pass0 (pa_cons (pv 0) pa_nil)))) (pss_one
       ps_never) pss_nil)), ?_⟩
  refine body_P h fun ds Q hT => ?_
  obtain ⟨s, rfl, hw, k⟩ := hT
  refine ws_ifF ?_
  walk_at "w"
  refine ⟨s, rfl, hw, _, rfl, true, rfl, rfl, ?_⟩
  exact ws_next k
theorem sc_law_is_integer : FnScope ["_law_actual"] ["_law_actual"] (defScope s_law_is_integer) := ⟨rfl, rfl, rfl, by decide +kernel, rfl, by decide +kernel, by decide +kernel⟩
def isI : D → Bool
  | .int _ => true
  | _ => false
def T_law_is_integer : List D → (Cell → Prop) → Prop := fun ds Q => ∃ d, ds = [d] ∧ Q (.imm (.bl (isI d)))
theorem len_law_is_integer : ∀ ds Q, T_law_is_integer ds Q → ds.length = 1 := fun ds Q ⟨d, h, _⟩ => by rw [h]; rfl
theorem ok_law_is_integer {f : Addr} {fd : FuncData} (T : Txt K mg) (F : FnP K "_law_is_integer" s_law_is_integer f fd) : FnOk P w K mg base CX0 1 f fd ["_law_actual"] (spP T_law_is_integer) := by
  refine F.ok sc_law_is_integer (fun vs H Q E h => len_P len_law_is_integer h) (fun cdv A outer s H vs Q E hr h => ?_)
  have hu := hu_of hr
  refine ⟨_, PSs.nox (pss_one
      (ps_ret (pe_and (pe_callB (isiK K) (by rfl) T.b_isinstance bt_isinstance (pa_cons (pv 0) (pa_cons (pe_bltn (v := .ty "int") (by rfl) T.b_int bt_int rfl) pa_nil))) (pe_one (pe_not (pe_callB (isiK K) (by rfl) T.b_isinstance bt_isinstance (pa_cons (pv 0) (pa_cons (pe_bltn (v := .ty "bool") (by rfl) T.b_bool bt_bool rfl) pa_nil)))))))), ?_⟩
  refine body_P h fun ds Q hT => ?_
  obtain ⟨d, rfl, q⟩ := hT
  walk_at "w"
  cases d with
  | int i =>
    refine ⟨true, rfl, fun _ => ?_, fun z => by cases z⟩
    walk_at "w"
    exact ⟨false, rfl, q⟩
  | bl b =>
    refine ⟨true, rfl, fun _ => ?_, fun z => by cases z⟩
    walk_at "w"
    exact ⟨true, rfl, q⟩
  | _ => exact ⟨false, rfl, (fun z => by cases z), fun _ => q⟩
theorem sc_alone : FnScope ["system"] ["system"] (defScope s_alone) := ⟨rfl, rfl, rfl, by decide +kernel, rfl, by decide +kernel, by decide +kernel⟩
def T_alone : List D → (Cell → Prop) → Prop := fun ds Q => ∃ (s : Sys), ds = [sysD s] ∧ s.Wf ∧ Q (.imm (.lst (natD (List.range s.n))))
theorem len_alone : ∀ ds Q, T_alone ds Q → ds.length = 1 := fun ds Q ⟨s, h, _⟩ => by rw [h]; rfl
theorem ok_alone {f : Addr} {fd : FuncData} (T : Txt K mg) (F : FnP K "alone" s_alone f fd) : FnOk P w K mg base CX0 1 f fd ["system"] (spP T_alone) := by
  refine F.ok sc_alone (fun vs H Q E h => len_P len_alone h) (fun cdv A outer s H vs Q E hr h => ?_)
  have hu := hu_of hr
  refine ⟨_, PSs.nox (pss_one
      (ps_ret (pe_listRg rfl rfl T.b_list (prg_1 rfl T.b_range (pe_ix (ixK K) (pv 0) pe_int (fun _ _ => rfl)))))), ?_⟩
  refine body_P h fun ds Q hT => ?_
  obtain ⟨s, rfl, hw, k⟩ := hT
  walk_at "w"
  refine we_listRg ?_
  walk_at "w"
  refine rd_ixT (d := .int (s.n : Int)) rfl ?_
  exact ⟨s.n, rfl, by have := hw.n8; omega, k⟩
theorem sc_join : FnScope ["blocks", "one", "other", "number"] ["blocks", "one", "other"] (defScope s_join) := ⟨rfl, rfl, rfl, by decide +kernel, rfl, by decide +kernel, by decide +kernel⟩
def T_join : List D → (Cell → Prop) → Prop := fun ds Q => ∃ (B : List Nat) (a b : Nat), ds = [.lst (natD B), .int (a : Int), .int (b : Int)] ∧ B.length ≤ 8 ∧ a < B.length ∧ b < B.length ∧ Q (.imm (.lst (natD (joinB B a b))))
theorem len_join : ∀ ds Q, T_join ds Q → ds.length = 3 := fun ds Q ⟨B, a, b, h, _⟩ => by rw [h]; rfl
theorem bl_at {B : List Nat} {x : Nat} (h : x < B.length) : atI (natD B) (x : Int) = some (.int (bl B x : Int)) := by
  refine atI_nat (natD_get ?_)
  unfold bl
  rw [List.getElem?_eq_getElem h, getD_at h]
theorem joinB_take {B : List Nat} {a b i x : Nat} (h : B[i]? = some x) : natD ((joinB B a b).take (i + 1)) = natD ((joinB B a b).take i) ++ [.int ((if x = bl B b then bl B a else x : Nat) : Int)] := by
  have e : (joinB B a b)[i]? = some (if x = bl B b then bl B a else x) := by
    unfold joinB
    rw [List.getElem?_map, h]
    rfl
  rw [take_snoc e, natD_append]
  rfl
theorem ok_join {f : Addr} {fd : FuncData} (T : Txt K mg) (F : FnP K "join" s_join f fd) : FnOk P w K mg base CX0 1 f fd ["blocks", "one", "other"] (spP T_join) := by
  refine F.ok sc_join (fun vs H Q E h => len_P len_join h) (fun cdv A outer s H vs Q E hr h => ?_)
  have hu := hu_of hr
  refine ⟨_, PSs.nox (pss_cons
      (ps_if (pt_cmpR op_eq (pe_ix (ixK K) (pv 0) (pv 1) (fun _ _ => rfl)) (pe_ix (ixK K) (pv 0) (pv 2) (fun _ _ => rfl)) (nomark _)) (pss_one
       (ps_ret (pv 0))) pss_nil)
      (pss_one
      (ps_ret (pe_lc (own := [("number", 3)]) (g := gName 3) rfl sc_join.nd (piLK K (pv 0)) (blkOk_by (own := [("number", 3)]) (N := ["blocks", "one", "other", "number"]) (sc := defScope s_join) (by decide +kernel)) (fun _ _ _ _ _ => (pg_name (i := 3) sc_join.nd rfl (by first | exact Or.inl rfl | exact Or.inr rfl))) (fun _ _ _ _ _ => pts_nil) (fun _ _ _ _ _ => (pe_ifExp (pt_cmpR op_eq (pv 3) (pe_ix (ixK K) (pv 0) (pv 2) (fun _ _ => rfl)) (nomark _)) (pe_ix (ixK K) (pv 0) (pv 1) (fun _ _ => rfl)) (pv 3))))))), ?_⟩
  refine body_P h fun ds Q hT => ?_
  obtain ⟨B, a, b, rfl, h8, ha, hb, k⟩ := hT
  walk_at "w"
  refine rd_ixL (bl_at ha) ?_
  walk_at "w"
  refine rd_ixL (bl_at hb) ?_
  refine rd_eqI ⟨_, rfl, fun h => ?_, fun h => ?_⟩
  · have h := of_decide_eq_true h
    walk_at "w"
    rw [joinB_same (by omega)] at k
    exact k
  walk_at "w"
  refine we_lc (wi_list (we_var (d := .lst (natD B)) rfl ⟨_, rfl, fun i acc ρ' => acc = natD ((joinB B a b).take i) ∧ ρ' = [some (.imm (.lst (natD B))), some (.imm (.int (a : Int))), some (.imm (.int (b : Int))), none], ?_, ⟨rfl, rfl⟩, ?_, ?_⟩))
  · rw [natD_length]; omega
  · rintro j d acc ρ' hd ⟨rfl, rfl⟩
    obtain ⟨x, hx, rfl⟩ := natD_at hd
    refine wgv_name (by decide) ?_
    refine wt_yes ⟨fun _ => ?_, fun z => by cases z⟩
    walk_at "w"
    refine rd_ixL (bl_at hb) ?_
    refine rd_eqI ⟨_, rfl, fun h => ?_, fun h => ?_⟩
    · have h := of_decide_eq_true h
      walk_at "w"
      refine rd_ixL (bl_at ha) ⟨?_, rfl⟩
      rw [joinB_take hx, if_pos (by omega)]
    · have h := of_decide_eq_false h
      walk_at "w"
      refine ⟨?_, rfl⟩
      rw [joinB_take hx, if_neg (by omega)]
  · rintro acc ρ' ⟨rfl, rfl⟩
    rw [natD_length, ← joinB_len B a b, List.take_length]
    exact k
end
end K47

set_option Elab.async false
set_option linter.all false
set_option maxRecDepth 100000
set_option maxHeartbeats 4000000
namespace K47
open PySem L2
local macro_rules | `(tactic| walk_at "w1") => `(tactic| first
  | with_reducible refine ws_seq ?_
  | with_reducible refine ws_ret ?_
  | with_reducible refine ws_asg ?_
  | with_reducible refine ws_drop ?_
  | with_reducible refine ws_if ?_
  | with_reducible refine ws_next ?_
  | ((with_reducible refine' we_var ?hv ?_); (case hv => exact rfl))
  | with_reducible refine we_int ?_
  | with_reducible refine we_bl ?_
  | with_reducible refine we_non ?_
  | with_reducible refine we_str ?_
  | with_reducible refine we_callP ?_
  | with_reducible refine we_isi (by decide) ?_
  | with_reducible refine we_cb ?_
  | with_reducible refine we_op ?_
  | with_reducible refine we_un ?_
  | with_reducible refine we_chain ?_
  | with_reducible refine we_andV ?_
  | with_reducible refine we_orV ?_
  | with_reducible refine we_notV ?_
  | with_reducible refine we_if ?_
  | with_reducible refine we_tup ?_
  | with_reducible refine we_lst ?_
  | with_reducible refine wa_nil ?_
  | with_reducible refine wa_cons ?_
  | with_reducible refine wt_test ?_
  | with_reducible refine wt_B ?_
  | with_reducible refine wt_not ?_
  | with_reducible refine wt_and ?_
  | with_reducible refine wt_or ?_
  | with_reducible refine wt_yes ?_
  | with_reducible refine wt_truK ?_)
local macro_rules | `(tactic| walk_at "w") => `(tactic| repeat walk_at "w1")
/-! ### pairs of states found -/
def ip (p : Nat × Nat) : Int × Int := ((p.1 : Int), (p.2 : Int))
theorem ip_inj {p q : Nat × Nat} (h : ip p = ip q) : p = q := by
  obtain ⟨a, b⟩ := p
  obtain ⟨c, d⟩ := q
  have h1 := congrArg Prod.fst h
  have h2 := congrArg Prod.snd h
  have h1 : (a : Int) = c := h1
  have h2 : (b : Int) = d := h2
  have e1 : a = c := by omega
  have e2 : b = d := by omega
  rw [e1, e2]
abbrev PL := List ((Nat × Nat) × List Nat)
def PK (L : PL) : List (Nat × Nat) := L.map (·.1)
def kvPL (L : PL) : List ((Int × Int) × D) := L.map fun e => (ip e.1, D.tup (natD e.2))
def pairsD (W : List (Nat × Nat)) : List D := W.map fun p => pD (ip p)
theorem PK_append (L M : PL) : PK (L ++ M) = PK L ++ PK M := List.map_append
theorem kvPL_append (L M : PL) : kvPL (L ++ M) = kvPL L ++ kvPL M := List.map_append
theorem kvPL_len (L : PL) : (kvPL L).length = L.length := List.length_map _
theorem pairsD_append (L M : List (Nat × Nat)) : pairsD (L ++ M) = pairsD L ++ pairsD M := List.map_append
theorem pairsD_len (L : List (Nat × Nat)) : (pairsD L).length = L.length := List.length_map _
theorem pairsD_at {W : List (Nat × Nat)} {i : Nat} {d : D} (h : (pairsD W)[i]? = some d) : ∃ p, W[i]? = some p ∧ d = pD (ip p) := by
  unfold pairsD at h
  rw [List.getElem?_map] at h
  cases e : W[i]? with
  | none => rw [e] at h; cases h
  | some c => rw [e] at h; exact ⟨c, rfl, (Option.some.inj h).symm⟩
theorem kvPL_keys (L : PL) : (kvPL L).map (·.1) = (PK L).map ip := by unfold kvPL PK; rw [List.map_map, List.map_map]; rfl
theorem kvPL_none {L : PL} {p : Nat × Nat} : lk (kvPL L) (ip p) = none ↔ p ∉ PK L := by
  rw [lk_none, kvPL_keys]
  refine ⟨fun h z => h (List.mem_map.mpr ⟨p, z, rfl⟩), fun h z => ?_⟩
  obtain ⟨q, hq, e⟩ := List.mem_map.mp z
  rw [← ip_inj e] at h
  exact h hq
theorem nodup_map {α β : Type} {f : α → β} (hf : ∀ a b, f a = f b → a = b) : ∀ {l : List α}, l.Nodup → (l.map f).Nodup
  | [], _ => List.nodup_nil
  | a :: l, h => by
    obtain ⟨h1, h2⟩ := List.nodup_cons.mp h
    refine List.nodup_cons.mpr ⟨fun z => ?_, nodup_map hf h2⟩
    obtain ⟨b, hb, e⟩ := List.mem_map.mp z
    rw [← hf _ _ e] at h1
    exact h1 hb
theorem kvPL_some {L : PL} (hn : (PK L).Nodup) {p : Nat × Nat} {q : List Nat} (h : (p, q) ∈ L) : lk (kvPL L) (ip p) = some (.tup (natD q)) := by
  refine lk_of_mem ?_ ?_
  · rw [kvPL_keys]; exact nodup_map (fun _ _ e => ip_inj e) hn
  · exact List.mem_map.mpr ⟨(p, q), h, rfl⟩
theorem PK_mem {L : PL} {p : Nat × Nat} (h : p ∈ PK L) : ∃ q, (p, q) ∈ L := by
  obtain ⟨⟨a, q⟩, h1, e⟩ := List.mem_map.mp h
  have e : a = p := e
  subst e
  exact ⟨q, h1⟩
def Sys.ps (s : Sys) (p : Nat × Nat) (c : Nat) : Nat × Nat := (s.nx p.1 c, s.nx p.2 c)
structure Sys.PI (s : Sys) (a b : Nat) (L : PL) : Prop where
  nd : (PK L).Nodup
  hd : ((a, b), []) ∈ L
  sq : ∀ e ∈ L, s.Sq e.2 ∧ e.1 = (s.led a e.2, s.led b e.2)
  len : ∀ e ∈ L, e.2.length < L.length
theorem Sys.PI.start (s : Sys) (a b : Nat) : s.PI a b [((a, b), [])] where
  nd := by
    show List.Nodup [(a, b)]
    simp
  hd := List.mem_cons_self ..
  sq := fun e h => by
    rw [List.mem_singleton.mp h]
    exact ⟨(fun c hc => by cases hc), rfl⟩
  len := fun e h => by rw [List.mem_singleton.mp h]; exact Nat.zero_lt_one
theorem Sys.PI.lt {s : Sys} (w : s.Wf) {a b : Nat} (ha : a < s.n) (hb : b < s.n) {L : PL} (h : s.PI a b L) {p : Nat × Nat} (hp : p ∈ PK L) : p.1 < s.n ∧ p.2 < s.n := by
  obtain ⟨q, hq⟩ := PK_mem hp
  obtain ⟨h1, h2⟩ := h.sq _ hq
  have h2 : p = (s.led a q, s.led b q) := h2
  rw [h2]
  exact ⟨w.led ha h1, w.led hb h1⟩
theorem Sys.PI.le {s : Sys} (w : s.Wf) {a b : Nat} (ha : a < s.n) (hb : b < s.n) {L : PL} (h : s.PI a b L) : L.length ≤ s.n * s.n := by
  have e : ((List.range s.n).flatMap fun x => (List.range s.n).map fun y => (x, y)).length = s.n * s.n := by
    rw [List.length_flatMap]
    have : (fun x => ((List.range s.n).map fun y => (x, y)).length) = fun _ : Nat => s.n := by
      funext x; rw [List.length_map, List.length_range]
    rw [this, List.map_const', List.length_range, List.sum_replicate_nat]
  rw [← e, show L.length = (PK L).length from (List.length_map _).symm]
  refine h.nd.length_le_of_subset fun p hp => ?_
  obtain ⟨h1, h2⟩ := h.lt w ha hb hp
  exact List.mem_flatMap.mpr ⟨p.1, List.mem_range.mpr h1, List.mem_map.mpr ⟨p.2, List.mem_range.mpr h2, rfl⟩⟩
theorem Sys.Wf.nn {s : Sys} (w : s.Wf) : s.n * s.n ≤ 64 := Nat.le_trans (Nat.mul_le_mul w.n8 w.n8) (by decide)
theorem Sys.PI.add {s : Sys} {a b : Nat} {L : PL} (h : s.PI a b L) {p : Nat × Nat} {q : List Nat} (hp : (p, q) ∈ L) {c : Nat} (hc : c < s.k) (hn : s.ps p c ∉ PK L) : s.PI a b (L ++ [(s.ps p c, q ++ [c])]) where
  nd := by
    rw [PK_append]
    refine List.nodup_append.mpr ⟨h.nd, by show List.Nodup [s.ps p c]; simp, fun x hx y hy e => ?_⟩
    have hy : y = s.ps p c := List.mem_singleton.mp hy
    rw [e, hy] at hx
    exact hn hx
  hd := List.mem_append_left _ h.hd
  sq := fun e he => by
    rcases List.mem_append.mp he with z | z
    · exact h.sq e z
    · rw [List.mem_singleton.mp z]
      obtain ⟨h1, h2⟩ := h.sq _ hp
      have h2 : p = (s.led a q, s.led b q) := h2
      refine ⟨h1.snoc hc, ?_⟩
      show (s.nx p.1 c, s.nx p.2 c) = (s.led a (q ++ [c]), s.led b (q ++ [c]))
      rw [s.led_snoc, s.led_snoc, h2]
  len := fun e he => by
    rw [List.length_append, List.length_singleton]
    rcases List.mem_append.mp he with z | z
    · have := h.len e z; omega
    · rw [List.mem_singleton.mp z]
      have := h.len _ hp
      show (q ++ [c]).length < _
      rw [List.length_append, List.length_singleton]
      have : q.length < L.length := this
      omega
def Sys.PClo (s : Sys) (L : PL) (p : Nat × Nat) : Prop := ∀ c, c < s.k → s.ps p c ∈ PK L
structure Sys.PFull (s : Sys) (a b : Nat) (L : PL) : Prop extends s.PI a b L where
  clo : ∀ p ∈ PK L, s.PClo L p
theorem Sys.PFull.led {s : Sys} {a b : Nat} {L : PL} (h : s.PFull a b L) : ∀ {q : List Nat} {p : Nat × Nat}, p ∈ PK L → s.Sq q → (s.led p.1 q, s.led p.2 q) ∈ PK L
  | [], p, hp, _ => hp
  | c :: q, p, hp, hq => Sys.PFull.led h (q := q) (h.clo p hp c (hq c (List.mem_cons_self ..))) fun d hd => hq d (List.mem_cons_of_mem _ hd)
/-! the rounds -/
structure Sys.PW (s : Sys) (a b : Nat) (L : PL) (W Fr : List (Nat × Nat)) : Prop where
  pi : s.PI a b L
  w : ∀ p ∈ W, p ∈ PK L
  fr : ∀ p ∈ Fr, p ∈ PK L
  clo : ∀ p ∈ PK L, p ∈ W ∨ p ∈ Fr ∨ s.PClo L p
theorem Sys.PClo.mono {s : Sys} {L M : PL} {p : Nat × Nat} (h : s.PClo L p) : s.PClo (L ++ M) p := fun c hc => by
  rw [PK_append]; exact List.mem_append_left _ (h c hc)
theorem Sys.PW.add {s : Sys} {a b : Nat} {L : PL} {W Fr : List (Nat × Nat)} (h : s.PW a b L W Fr) {p : Nat × Nat} {q : List Nat} (hp : (p, q) ∈ L) {c : Nat} (hc : c < s.k) (hn : s.ps p c ∉ PK L) : s.PW a b (L ++ [(s.ps p c, q ++ [c])]) W (Fr ++ [s.ps p c]) where
  pi := h.pi.add hp hc hn
  w := fun x hx => by rw [PK_append]; exact List.mem_append_left _ (h.w x hx)
  fr := fun x hx => by
    rw [PK_append]
    rcases List.mem_append.mp hx with z | z
    · exact List.mem_append_left _ (h.fr x z)
    · exact List.mem_append_right _ z
  clo := fun x hx => by
    rw [PK_append] at hx
    rcases List.mem_append.mp hx with z | z
    · rcases h.clo x z with e | e | e
      · exact .inl e
      · exact .inr (.inl (List.mem_append_left _ e))
      · exact .inr (.inr e.mono)
    · exact .inr (.inl (List.mem_append_right _ z))

/-! ### states found -/
abbrev RL := List (Nat × List Nat)
def RK (L : RL) : List Nat := L.map (·.1)
def kvRL (L : RL) : List (Int × D) := L.map fun e => ((e.1 : Int), D.tup (natD e.2))
theorem RK_append (L M : RL) : RK (L ++ M) = RK L ++ RK M := List.map_append
theorem kvRL_append (L M : RL) : kvRL (L ++ M) = kvRL L ++ kvRL M := List.map_append
theorem kvRL_len (L : RL) : (kvRL L).length = L.length := List.length_map _
theorem kvRL_keys (L : RL) : (kvRL L).map (·.1) = (RK L).map fun x : Nat => (x : Int) := by unfold kvRL RK; rw [List.map_map, List.map_map]; rfl
theorem nat_cast_inj (a b : Nat) (h : (a : Int) = b) : a = b := by omega
theorem kvRL_none {L : RL} {p : Nat} : lk (kvRL L) (p : Int) = none ↔ p ∉ RK L := by
  rw [lk_none, kvRL_keys]
  refine ⟨fun h z => h (List.mem_map.mpr ⟨p, z, rfl⟩), fun h z => ?_⟩
  obtain ⟨q, hq, e⟩ := List.mem_map.mp z
  rw [← nat_cast_inj _ _ e] at h
  exact h hq
theorem kvRL_some {L : RL} (hn : (RK L).Nodup) {p : Nat} {q : List Nat} (h : (p, q) ∈ L) : lk (kvRL L) (p : Int) = some (.tup (natD q)) := by
  refine lk_of_mem ?_ ?_
  · rw [kvRL_keys]; exact nodup_map nat_cast_inj hn
  · exact List.mem_map.mpr ⟨(p, q), h, rfl⟩
theorem RK_mem {L : RL} {p : Nat} (h : p ∈ RK L) : ∃ q, (p, q) ∈ L := by
  obtain ⟨⟨a, q⟩, h1, e⟩ := List.mem_map.mp h
  have e : a = p := e
  subst e
  exact ⟨q, h1⟩
structure Sys.RI (s : Sys) (L : RL) : Prop where
  nd : (RK L).Nodup
  st : s.start ∈ RK L
  rc : ∀ x ∈ RK L, Rc s x
  len : ∀ e ∈ L, e.2.length < L.length
theorem Sys.RI.one (s : Sys) : s.RI [(s.start, [])] where
  nd := by show List.Nodup [s.start]; simp
  st := List.mem_cons_self ..
  rc := fun x h => by
    have h : x ∈ [s.start] := h
    rw [List.mem_singleton.mp h]
    exact .start
  len := fun e h => by rw [List.mem_singleton.mp h]; exact Nat.zero_lt_one
theorem Sys.RI.le {s : Sys} (w : s.Wf) {L : RL} (h : s.RI L) : L.length ≤ s.n := by
  have e : (List.range s.n).length = s.n := List.length_range
  rw [← e, show L.length = (RK L).length from (List.length_map _).symm]
  exact h.nd.length_le_of_subset fun p hp => List.mem_range.mpr ((h.rc p hp).lt w)
def Sys.RClo (s : Sys) (L : RL) (x : Nat) : Prop := ∀ c, c < s.k → s.nx x c ∈ RK L
theorem Sys.RClo.mono {s : Sys} {L M : RL} {p : Nat} (h : s.RClo L p) : s.RClo (L ++ M) p := fun c hc => by
  rw [RK_append]; exact List.mem_append_left _ (h c hc)
theorem Sys.RI.add {s : Sys} {L : RL} (h : s.RI L) {x : Nat} {q : List Nat} (hp : (x, q) ∈ L) {c : Nat} (hc : c < s.k) (hn : s.nx x c ∉ RK L) : s.RI (L ++ [(s.nx x c, q ++ [c])]) where
  nd := by
    rw [RK_append]
    refine List.nodup_append.mpr ⟨h.nd, by show List.Nodup [s.nx x c]; simp, fun x hx y hy e => ?_⟩
    have hy := List.mem_singleton.mp hy
    rw [e, hy] at hx
    exact hn hx
  st := by rw [RK_append]; exact List.mem_append_left _ h.st
  rc := fun y hy => by
    rw [RK_append] at hy
    rcases List.mem_append.mp hy with z | z
    · exact h.rc y z
    · have z : y ∈ [s.nx x c] := z
      rw [List.mem_singleton.mp z]
      exact .step (h.rc x (List.mem_map.mpr ⟨_, hp, rfl⟩)) hc
  len := fun e he => by
    rw [List.length_append, List.length_singleton]
    rcases List.mem_append.mp he with z | z
    · have := h.len e z; omega
    · rw [List.mem_singleton.mp z]
      have := h.len _ hp
      show (q ++ [c]).length < _
      rw [List.length_append, List.length_singleton]
      have : q.length < L.length := this
      omega
theorem Sys.RI.full {s : Sys} {L : RL} (h : s.RI L) (hc : ∀ x ∈ RK L, s.RClo L x) {x : Nat} : x ∈ RK L ↔ Rc s x := by
  refine ⟨h.rc x, fun z => ?_⟩
  induction z with
  | start => exact h.st
  | step _ hk ih => exact hc _ ih _ hk
/-- sorted states, as data -/
theorem sorted_reach {s : Sys} (w : s.Wf) {N : List Nat} (hn : N.Nodup) (hm : ∀ x, x ∈ N ↔ Rc s x) {ys : List Int} (h1 : ys.Perm (N.map fun x : Nat => (x : Int))) (h2 : ys.Pairwise (· ≤ ·)) : ys.map D.int = natD s.reach := by
  have hr : s.reach.Nodup := List.nodup_iff_pairwise_ne.mpr ((reach_sorted s).imp fun h => by omega)
  have hp : N.Perm s.reach := (List.perm_ext_iff_of_nodup hn hr).mpr fun x => by rw [hm, w.mem_reach]
  have e : ys = s.reach.map fun x : Nat => (x : Int) := by
    refine List.Perm.eq_of_pairwise (le := (· ≤ ·)) (fun a b _ _ h1 h2 => by omega) h2 ?_ (h1.trans (hp.map _))
    rw [List.pairwise_map]
    exact (reach_sorted s).imp fun h => by omega
  rw [e, natD_ints]
def Sys.rcK (s : Sys) (kvs : List (Int × D)) : Prop := ∃ N : List Nat, kvs.map (·.1) = N.map (fun x : Nat => (x : Int)) ∧ N.Nodup ∧ ∀ x, x ∈ N ↔ Rc s x
def rcR (s : Sys) (p q : Addr) (L : RL) (W : List Nat) (x4 x5 x6 : Option Cell) : Rho := [some (.imm (sysD s)), some (.imm (.int (s.start : Int))), some (.dk p (kvRL L)), some (.ol q (natD W)), x4, x5, x6]

section
variable {P : Program} {w : World} {K : PySem.W.Frag} {mg : Str → Option Value} {base : Heap}
theorem sc_pairs_from : FnScope ["system", "one", "other", "found", "waiting", "fresh", "pair", "command", "later"] ["system", "one", "other"] (defScope s_pairs_from) := ⟨rfl, rfl, rfl, by decide +kernel, rfl, by decide +kernel, by decide +kernel⟩
def T_pairs_from : List D → (Cell → Prop) → Prop := fun ds Q => ∃ (s : Sys) (a b : Nat), ds = [sysD s, .int (a : Int), .int (b : Int)] ∧ s.Wf ∧ a < s.n ∧ b < s.n ∧ ∀ L p, s.PFull a b L → Q (.dt p (kvPL L))
theorem len_pairs_from : ∀ ds Q, T_pairs_from ds Q → ds.length = 3 := fun ds Q ⟨s, a, b, h, _⟩ => by rw [h]; rfl
def pfR (s : Sys) (a b : Nat) (p : Addr) (L : PL) (W : List (Nat × Nat)) (x5 x6 x7 x8 : Option Cell) : Rho := [some (.imm (sysD s)), some (.imm (.int (a : Int))), some (.imm (.int (b : Int))), some (.dt p (kvPL L)), some (.imm (.lst (pairsD W))), x5, x6, x7, x8]
theorem ok_pairs_from {f : Addr} {fd : FuncData} (T : Txt K mg) (F : FnP K "pairs_from" s_pairs_from f fd) {f_step : Addr} {fd_step : FuncData} (c_step : Cal P w K mg base "step" 1 ["system", "state", "command"] (spP T_step) f_step fd_step) : FnOk P w K mg base CX0 2 f fd ["system", "one", "other"] (spP T_pairs_from) := by
  refine F.ok sc_pairs_from (fun vs H Q E h => len_P len_pairs_from h) (fun cdv A outer s H vs Q E hr h => ?_)
  have hu := hu_of hr
  refine ⟨_, PSs.nox (pss_cons
      (ps_set (i := 3) sc_pairs_from.nd rfl (by first | exact Or.inl rfl | exact Or.inr rfl) (pe_dispT hu (pe_tup (pa_cons (pv 1) (pa_cons (pv 2) pa_nil))) (pe_tup pa_nil)))
      (pss_cons
      (ps_set (i := 4) sc_pairs_from.nd rfl (by first | exact Or.inl rfl | exact Or.inr rfl) (pe_lst (pa_cons (pe_tup (pa_cons (pv 1) (pa_cons (pv 2) pa_nil))) pa_nil)))
      (pss_cons
      (ps_while PassesOwn.never (truK K (pv 4) (by intro _; rfl)) (pss_cons
       (ps_set (i := 5) sc_pairs_from.nd rfl (by first | exact Or.inl rfl | exact Or.inr rfl) (pe_lst pa_nil))
       (pss_cons
       (ps_for PassesOwn.never rfl (piLK K (pv 4)) (pg_name (i := 6) sc_pairs_from.nd rfl (by first | exact Or.inl rfl | exact Or.inr rfl)) (pss_one
        (ps_for PassesOwn.never rfl (pi_range1 rfl T.b_range (pa_cons (pe_callB (lenK K) (by rfl) T.b_len bt_len (pa_cons (pe_ix (ixK K) (pv 0) pe_int (fun _ _ => rfl)) pa_nil)) pa_nil)) (pg_name (i := 7) sc_pairs_from.nd rfl (by first | exact Or.inl rfl | exact Or.inr rfl)) (pss_cons
         (ps_set (i := 8) sc_pairs_from.nd rfl (by first | exact Or.inl rfl | exact Or.inr rfl) (pe_tup (pa_cons (pe_call c_step.G (hr.mono (by decide)) rfl c_step.m c_step.kp c_step.b .nil pass0 (pa_cons (pv 0) (pa_cons (pe_ix (ixK K) (pv 6) pe_int (fun _ _ => rfl)) (pa_cons (pv 7) pa_nil)))) (pa_cons (pe_call c_step.G (hr.mono (by decide)) rfl c_step.m c_step.kp c_step.b .nil pass0 (pa_cons (pv 0) (pa_cons (pe_ix (ixK K) (pv 6) pe_int (fun _ _ => rfl)) (pa_cons (pv 7) pa_nil)))) pa_nil))))
         (pss_one
         (ps_if (pt_cmp (pc_dnotin hu (pv 8) (pv 3))) (pss_cons
          (ps_dput hu (pv 3) (pv 8) (pe_op (plusK K) (pe_dget hu (pv 3) (pv 6) (fun _ _ => rfl)) (pe_tup (pa_cons (pv 7) pa_nil))) rfl)
          (pss_one
          (ps_expr (bmK K (pe_bm PySem.F.plainAttrs_list PySem.F.slot_list_append PySem.F.type_list_append mt_append (pv 5) (pa_cons (pv 8) pa_nil)))))) pss_nil))))))
       (pss_one
       (ps_set (i := 4) sc_pairs_from.nd rfl (by first | exact Or.inl rfl | exact Or.inr rfl) (pv 5))))))
      (pss_one
      (ps_ret (pv 3)))))), ?_⟩
  refine body_P h fun ds Q hT => ?_
  obtain ⟨s, a, b, rfl, hw, ha, hb, k⟩ := hT
  refine ws_seq (ws_asgC (wc_dispT ?_))
  walk_at "w"
  refine ⟨by simp, ?_⟩
  walk_at "w"
  refine ⟨by simp, ip (a, b), rfl, fun p => ?_⟩
  walk_at "w"
  refine ⟨by simp, ?_⟩
  walk_at "w"
  refine ⟨by simp, ?_⟩
  refine ws_seq (ws_while (fun m ρ' => ∃ L W x5 x6 x7 x8, s.PW a b L W [] ∧ m = (s.n * s.n - L.length) * 2 + (if W = [] then 0 else 1) ∧ ρ' = pfR s a b p L W x5 x6 x7 x8) _ ⟨[((a, b), [])], [(a, b)], none, none, none, none, ⟨.start s a b, (fun x h => h), (fun x h => by cases h), fun x h => .inl h⟩, rfl, rfl⟩ ?_)
  rintro m ρ' ⟨L, W, x5, x6, x7, x8, hP, rfl, rfl⟩
  walk_at "w"
  refine ⟨!(pairsD W).isEmpty, rfl, fun hb' => ?_, fun hb' => ?_⟩
  · have hW : W ≠ [] := fun z => by subst z; cases hb'
    refine ws_seq (ws_asgC (wc_lst ?_))
    walk_at "w"
    refine ⟨by simp, fun q => ?_⟩
    refine ws_seq (ws_for (wi_list (we_var (d := .lst (pairsD W)) rfl ⟨_, rfl, fun i ρ' => ∃ L' Fr x6 x7 x8, s.PW a b L' W Fr ∧ L'.length = L.length + Fr.length ∧ (∀ j x, j < i → W[j]? = some x → s.PClo L' x) ∧ ρ' = pfR s a b p L' W (some (.ol q (pairsD Fr))) x6 x7 x8, ⟨L, [], _, _, _, hP, rfl, (fun j x hj => absurd hj (Nat.not_lt_zero j)), rfl⟩, ?_, ?_⟩)))
    · rintro i d ρ' hd ⟨L', Fr, x6, x7, x8, hP', hl, hc, rfl⟩
      obtain ⟨x, hx, rfl⟩ := pairsD_at hd
      have hxW := List.mem_of_getElem? hx
      refine wg_name ?_
      refine ws_for (wi_range ?_)
      walk_at "w"
      refine rd_ixT (d := .tup (tabsD s.cmds)) rfl ?_
      walk_at "w"
      refine rc_len (.inl rfl) ?_
      walk_at "w"
      have hk4 := hw.k4
      refine ⟨s.k, by rw [tabsD_length]; rfl, by show s.cmds.length ≤ _; omega, ?_⟩
      refine ⟨fun j ρ' => ∃ L' Fr x7 x8, s.PW a b L' W Fr ∧ L'.length = L.length + Fr.length ∧ (∀ j x, j < i → W[j]? = some x → s.PClo L' x) ∧ (∀ c, c < j → s.ps x c ∈ PK L') ∧ ρ' = pfR s a b p L' W (some (.ol q (pairsD Fr))) (some (.imm (pD (ip x)))) x7 x8, ⟨L', Fr, _, _, hP', hl, hc, (fun c h => absurd h (Nat.not_lt_zero c)), rfl⟩, ?_, ?_⟩
      · clear hP' hl hc
        rintro j d ρ' hd ⟨L', Fr, x7, x8, hP', hl, hc, hj, rfl⟩
        have hjk : j < s.k := by
          have := (List.getElem?_eq_some_iff.mp hd).1
          rw [rgD_length] at this; exact this
        rw [rgD_get hjk] at hd
        cases hd
        obtain ⟨sq, hsq⟩ := PK_mem (hP'.w x hxW)
        obtain ⟨hx1, hx2⟩ := hP'.pi.lt hw ha hb (hP'.w x hxW)
        have h64 := Nat.le_trans (hP'.pi.le hw ha hb) hw.nn
        refine wg_name ?_
        walk_at "w"
        refine rd_ixT (d := .int (x.1 : Int)) rfl ?_
        walk_at "w"
        refine ⟨s, x.1, j, rfl, hw, hx1, hjk, _, rfl, ?_⟩
        walk_at "w"
        refine rd_ixT (d := .int (x.2 : Int)) rfl ?_
        walk_at "w"
        refine ⟨s, x.2, j, rfl, hw, hx2, hjk, _, rfl, ?_⟩
        walk_at "w"
        refine ⟨by simp, ?_⟩
        walk_at "w"
        refine we_dnotinT ?_
        walk_at "w"
        refine ⟨p, ip (s.ps x j), _, rfl, rfl, _, rfl, fun hn => ?_, fun hn => ?_⟩
        · have hn' : lk (kvPL L') (ip (s.ps x j)) = none := Option.isNone_iff_eq_none.mp hn
          have hn := kvPL_none.mp hn'
          refine ws_seq (ws_dputT ?_)
          walk_at "w"
          refine we_dgetT rfl ?_
          walk_at "w"
          refine ⟨p, ip x, _, _, rfl, rfl, kvPL_some hP'.pi.nd hsq, ?_⟩
          walk_at "w"
          refine ⟨by simp, rd_plusT ?_ ⟨⟨_, _, rfl⟩, ?_⟩⟩
          · have := hP'.pi.len _ hsq
            have : sq.length < L'.length := this
            rw [natD_length]; simp; omega
          walk_at "w"
          refine ⟨p, ip (s.ps x j), _, rfl, rfl, hn', by rw [kvPL_len]; omega, ?_⟩
          have hFr : Fr.length ≤ 64 := by omega
          refine ws_app rfl ?_
          walk_at "w"
          refine ⟨_, rfl, by rw [pairsD_len]; omega, L' ++ [(s.ps x j, sq ++ [j])], Fr ++ [s.ps x j], some (.imm (.int (j : Int))), some (.imm (pD (ip (s.ps x j)))), hP'.add hsq hjk hn, by rw [List.length_append, List.length_append, hl]; rfl, fun u y h1 h2 => (hc u y h1 h2).mono, fun c hc => ?_, ?_⟩
          · rw [PK_append]
            by_cases e : c = j
            · subst e; exact List.mem_append_right _ (List.mem_cons_self ..)
            · exact List.mem_append_left _ (hj c (by omega))
          · unfold pfR
            rw [kvPL_append, pairsD_append, show kvPL [(s.ps x j, sq ++ [j])] = [(ip (s.ps x j), .tup (natD sq ++ [.int (j : Int)]))] by rw [← show natD (sq ++ [j]) = natD sq ++ [.int (j : Int)] from natD_append _ _]; rfl]
            rfl
        · refine ws_next ⟨L', Fr, _, _, hP', hl, hc, fun c hc' => ?_, rfl⟩
          by_cases e : c = j
          · subst e
            refine Classical.byContradiction fun z => ?_
            rw [kvPL_none.mpr z] at hn
            cases hn
          · exact hj c (by omega)
      · rintro ρ' ⟨L', Fr, x7, x8, hP', hl, hc, hj, rfl⟩
        rw [rgD_length] at hj
        refine ⟨L', Fr, _, _, _, hP', hl, fun u y h1 h2 => ?_, rfl⟩
        by_cases e : u = i
        · subst e
          rw [hx] at h2; cases h2
          exact hj
        · exact hc u y (by omega) h2
    · rintro ρ' ⟨L', Fr, x6, x7, x8, hP', hl, hc, rfl⟩
      refine ws_freeze (i := 5) rfl ?_
      walk_at "w"
      have hle := hP'.pi.le hw ha hb
      refine ⟨(s.n * s.n - L'.length) * 2 + (if Fr = [] then 0 else 1), ?_, L', Fr, _, _, _, _, ⟨hP'.pi, hP'.fr, (fun x h => by cases h), fun x hx => ?_⟩, rfl, rfl⟩
      · rw [if_neg hW]
        by_cases e : Fr = []
        · rw [if_pos e]; omega
        · rw [if_neg e]
          have : 0 < Fr.length := List.length_pos_iff.mpr e
          omega
      · rcases hP'.clo x hx with z | z | z
        · obtain ⟨u, hu⟩ := List.mem_iff_getElem?.mp z
          exact .inr (.inr (hc u x (by rw [pairsD_len]; exact (List.getElem?_eq_some_iff.mp hu).1) hu))
        · exact .inl z
        · exact .inr (.inr z)
  · have hW : W = [] := by
      cases W with
      | nil => rfl
      | cons x xs => cases hb'
    subst hW
    refine ws_retC (wc_varOwn (i := 3) rfl (k L p ⟨hP.pi, fun x hx => ?_⟩))
    rcases hP.clo x hx with z | z | z
    · cases z
    · cases z
    · exact z
theorem sc_reached : FnScope ["system", "state", "found", "waiting", "here", "command", "later"] ["system", "state"] (defScope s_reached) := ⟨rfl, rfl, rfl, by decide +kernel, rfl, by decide +kernel, by decide +kernel⟩
def T_reached : List D → (Cell → Prop) → Prop := fun ds Q => ∃ (s : Sys), ds = [sysD s, .int (s.start : Int)] ∧ s.Wf ∧ ∀ kvs p, s.rcK kvs → kvs.length < 64 → Q (.dk p kvs)
theorem len_reached : ∀ ds Q, T_reached ds Q → ds.length = 2 := fun ds Q ⟨s, h, _⟩ => by rw [h]; rfl
theorem ok_reached {f : Addr} {fd : FuncData} (T : Txt K mg) (F : FnP K "reached" s_reached f fd) {f_step : Addr} {fd_step : FuncData} (c_step : Cal P w K mg base "step" 1 ["system", "state", "command"] (spP T_step) f_step fd_step) : FnOk P w K mg base CX0 2 f fd ["system", "state"] (spP T_reached) := by
  refine F.ok sc_reached (fun vs H Q E h => len_P len_reached h) (fun cdv A outer s H vs Q E hr h => ?_)
  have hu := hu_of hr
  refine ⟨_, PSs.nox (pss_cons
      (ps_set (i := 2) sc_reached.nd rfl (by first | exact Or.inl rfl | exact Or.inr rfl) (pe_disp (pps_cons (pv 1) (pe_tup pa_nil) pps_nil) rfl rfl (by intro z; cases z) (by decide)))
      (pss_cons
      (ps_set (i := 3) sc_reached.nd rfl (by first | exact Or.inl rfl | exact Or.inr rfl) (pe_lst (pa_cons (pv 1) pa_nil)))
      (pss_cons
      (ps_while PassesOwn.never (pt_cmpR op_gt (pe_callB (lenK K) (by rfl) T.b_len bt_len (pa_cons (pv 3) pa_nil)) pe_int (nomark _)) (pss_cons
       (ps_set (i := 4) sc_reached.nd rfl (by first | exact Or.inl rfl | exact Or.inr rfl) (bmK K (pe_bm PySem.F.plainAttrs_list PySem.F.slot_list_pop PySem.F.type_list_pop mt_popAt (pv 3) (pa_cons pe_int pa_nil))))
       (pss_one
       (ps_for PassesOwn.never rfl (pi_range1 rfl T.b_range (pa_cons (pe_callB (lenK K) (by rfl) T.b_len bt_len (pa_cons (pe_ix (ixK K) (pv 0) pe_int (fun _ _ => rfl)) pa_nil)) pa_nil)) (pg_name (i := 5) sc_reached.nd rfl (by first | exact Or.inl rfl | exact Or.inr rfl)) (pss_cons
        (ps_set (i := 6) sc_reached.nd rfl (by first | exact Or.inl rfl | exact Or.inr rfl) (pe_call c_step.G (hr.mono (by decide)) rfl c_step.m c_step.kp c_step.b .nil pass0 (pa_cons (pv 0) (pa_cons (pv 4) (pa_cons (pv 5) pa_nil)))))
        (pss_one
        (ps_if (pt_cmp (pc_dnotin hu (pv 6) (pv 2))) (pss_cons
         (ps_dput hu (pv 2) (pv 6) (pe_op (plusK K) (pe_dget hu (pv 2) (pv 4) (fun _ _ => rfl)) (pe_tup (pa_cons (pv 5) pa_nil))) rfl)
         (pss_one
         (ps_expr (bmK K (pe_bm PySem.F.plainAttrs_list PySem.F.slot_list_append PySem.F.type_list_append mt_append (pv 3) (pa_cons (pv 6) pa_nil)))))) pss_nil)))))))
      (pss_one
      (ps_ret (pv 2)))))), ?_⟩
  refine body_P h fun ds Q hT => ?_
  obtain ⟨s, rfl, hw, k⟩ := hT
  refine ws_seq (ws_asgC (wc_dispK ?_))
  walk_at "w"
  refine ⟨by simp, (s.start : Int), rfl, fun p => ?_⟩
  refine ws_seq (ws_asgC (wc_lst ?_))
  walk_at "w"
  refine ⟨by simp, fun q => ?_⟩
  refine ws_seq (ws_while (fun m ρ' => ∃ L W x4 x5 x6, s.RI L ∧ (∀ x ∈ W, x ∈ RK L) ∧ W.length ≤ L.length ∧ (∀ x ∈ RK L, x ∈ W ∨ s.RClo L x) ∧ m = (s.n - L.length) * 2 + W.length ∧ ρ' = rcR s p q L W x4 x5 x6) _ ⟨[(s.start, [])], [s.start], none, none, none, .one s, (fun x h => h), Nat.le_refl _, (fun x h => .inl h), rfl, rfl⟩ ?_)
  rintro m ρ' ⟨L, W, x4, x5, x6, hI, hWs, hWl, hWc, rfl, rfl⟩
  have hLn := hI.le hw
  have hn8 := hw.n8
  refine wt_B (we_op (we_lenOl (ds := natD W) rfl ?_))
  walk_at "w"
  rw [natD_length]
  refine rd_B0 ⟨_, rfl, fun hb' => ?_, fun hb' => ?_⟩
  · have hb' := of_decide_eq_true hb'
    obtain ⟨h, W', rfl⟩ : ∃ h W', W = h :: W' := by
      cases W with
      | nil => exact absurd hb' (by simp)
      | cons h W' => exact ⟨h, W', rfl⟩
    have hl0 : W'.length + 1 ≤ L.length := hWl
    refine ws_seq (ws_asg (we_popAt (ds0 := natD (h :: W')) rfl ?_))
    walk_at "w"
    refine ⟨natD (h :: W'), 0, .int (h : Int), rfl, rfl, rfl, by rw [natD_length]; show W'.length + 1 < _; omega, ?_⟩
    obtain ⟨sq, hsq⟩ := RK_mem (hWs h (List.mem_cons_self ..))
    refine ws_for (wi_range ?_)
    walk_at "w"
    refine rd_ixT (d := .tup (tabsD s.cmds)) rfl ?_
    walk_at "w"
    refine rc_len (.inl rfl) ?_
    walk_at "w"
    have hk4 := hw.k4
    refine ⟨s.k, by rw [tabsD_length]; rfl, by show s.cmds.length ≤ _; omega, ?_⟩
    refine ⟨fun j ρ' => ∃ L' V x5 x6, s.RI L' ∧ (h, sq) ∈ L' ∧ (∀ x ∈ V, x ∈ RK L') ∧ (L.length ≤ L'.length ∧ V.length + L.length = W'.length + L'.length) ∧ (∀ x ∈ RK L', x ∈ V ∨ x = h ∨ s.RClo L' x) ∧ (∀ c, c < j → s.nx h c ∈ RK L') ∧ ρ' = rcR s p q L' V (some (.imm (.int (h : Int)))) x5 x6, ⟨L, W', x5, x6, hI, hsq, (fun x hx => hWs x (List.mem_cons_of_mem _ hx)), ⟨Nat.le_refl _, rfl⟩, fun x hx => ?_, (fun c h => absurd h (Nat.not_lt_zero c)), rfl⟩, ?_, ?_⟩
    · rcases hWc x hx with z | z
      · rcases List.mem_cons.mp z with e | z
        · exact .inr (.inl e)
        · exact .inl z
      · exact .inr (.inr z)
    · rintro j d ρ' hd ⟨L', V, x5, x6, hI', hsq', hVs, hVl, hVc, hj, rfl⟩
      have hjk : j < s.k := by
        have := (List.getElem?_eq_some_iff.mp hd).1
        rw [rgD_length] at this; exact this
      rw [rgD_get hjk] at hd
      cases hd
      have hLn' := hI'.le hw
      have hhn : h < s.n := (hI.rc h (hWs h (List.mem_cons_self ..))).lt hw
      refine wg_name ?_
      walk_at "w"
      refine ⟨s, h, j, rfl, hw, hhn, hjk, _, rfl, ?_⟩
      walk_at "w"
      refine we_dnotinK ?_
      walk_at "w"
      refine ⟨p, (s.nx h j : Int), _, rfl, rfl, _, rfl, fun hn => ?_, fun hn => ?_⟩
      · have hn' : lk (kvRL L') (s.nx h j : Int) = none := Option.isNone_iff_eq_none.mp hn
        have hn := kvRL_none.mp hn'
        refine ws_seq (ws_dputK ?_)
        walk_at "w"
        refine we_dgetK rfl ?_
        walk_at "w"
        refine ⟨p, (h : Int), _, _, rfl, rfl, kvRL_some hI'.nd hsq', ?_⟩
        walk_at "w"
        refine ⟨by simp, rd_plusT ?_ ⟨⟨_, _, rfl⟩, ?_⟩⟩
        · have := hI'.len _ hsq'
          have : sq.length < L'.length := this
          rw [natD_length]; simp; omega
        walk_at "w"
        refine ⟨p, (s.nx h j : Int), _, rfl, rfl, hn', by rw [kvRL_len]; omega, ?_⟩
        refine ws_app rfl ?_
        walk_at "w"
        refine ⟨_, rfl, by rw [natD_length]; omega, L' ++ [(s.nx h j, sq ++ [j])], V ++ [s.nx h j], some (.imm (.int (j : Int))), some (.imm (.int (s.nx h j : Int))), hI'.add hsq' hjk hn, List.mem_append_left _ hsq', fun x hx => ?_, by rw [List.length_append, List.length_append, List.length_singleton, List.length_singleton]; exact ⟨by omega, by omega⟩, fun x hx => ?_, fun c hc => ?_, ?_⟩
        · rw [RK_append]
          rcases List.mem_append.mp hx with z | z
          · exact List.mem_append_left _ (hVs x z)
          · exact List.mem_append_right _ z
        · rw [RK_append] at hx
          rcases List.mem_append.mp hx with z | z
          · rcases hVc x z with e | e | e
            · exact .inl (List.mem_append_left _ e)
            · exact .inr (.inl e)
            · exact .inr (.inr e.mono)
          · exact .inl (List.mem_append_right _ z)
        · rw [RK_append]
          by_cases e : c = j
          · subst e; exact List.mem_append_right _ (List.mem_cons_self ..)
          · exact List.mem_append_left _ (hj c (by omega))
        · unfold rcR
          rw [kvRL_append, natD_append, show kvRL [(s.nx h j, sq ++ [j])] = [((s.nx h j : Int), .tup (natD sq ++ [.int (j : Int)]))] by rw [← show natD (sq ++ [j]) = natD sq ++ [.int (j : Int)] from natD_append _ _]; rfl]
          rfl
      · refine ws_next ⟨L', V, _, _, hI', hsq', hVs, hVl, hVc, fun c hc' => ?_, rfl⟩
        by_cases e : c = j
        · subst e
          refine Classical.byContradiction fun z => ?_
          rw [kvRL_none.mpr z] at hn
          cases hn
        · exact hj c (by omega)
    · rintro ρ' ⟨L', V, x5, x6, hI', hsq', hVs, hVl, hVc, hj, rfl⟩
      rw [rgD_length] at hj
      have hLn' := hI'.le hw
      refine ⟨(s.n - L'.length) * 2 + V.length, ?_, L', V, _, _, _, hI', hVs, by omega, fun x hx => ?_, rfl, rfl⟩
      · show _ < _ * 2 + (W'.length + 1)
        have := hI'.nd
        omega
      · rcases hVc x hx with z | z | z
        · exact .inl z
        · subst z; exact .inr hj
        · exact .inr z
  · have hb' := of_decide_eq_false hb'
    have hW : W = [] := by
      cases W with
      | nil => rfl
      | cons x xs => exact absurd (by simp) hb'
    subst hW
    refine ws_retC (wc_varOwn (i := 2) rfl (k _ p ⟨RK L, kvRL_keys L, hI.nd, fun x => hI.full fun x hx => ?_⟩ (by rw [kvRL_len]; omega)))
    rcases hWc x hx with z | z
    · cases z
    · exact z
theorem sc_reachable_of : FnScope ["system"] ["system"] (defScope s_reachable_of) := ⟨rfl, rfl, rfl, by decide +kernel, rfl, by decide +kernel, by decide +kernel⟩
def T_reachable_of : List D → (Cell → Prop) → Prop := fun ds Q => ∃ (s : Sys), ds = [sysD s] ∧ s.Wf ∧ Q (.imm (.tup (natD s.reach)))
theorem len_reachable_of : ∀ ds Q, T_reachable_of ds Q → ds.length = 1 := fun ds Q ⟨s, h, _⟩ => by rw [h]; rfl
theorem ok_reachable_of {f : Addr} {fd : FuncData} (T : Txt K mg) (F : FnP K "reachable_of" s_reachable_of f fd) {f_reached : Addr} {fd_reached : FuncData} (c_reached : Cal P w K mg base "reached" 2 ["system", "state"] (spP T_reached) f_reached fd_reached) : FnOk P w K mg base CX0 3 f fd ["system"] (spP T_reachable_of) := by
  refine F.ok sc_reachable_of (fun vs H Q E h => len_P len_reachable_of h) (fun cdv A outer s H vs Q E hr h => ?_)
  have hu := hu_of hr
  refine ⟨_, PSs.nox (pss_one
      (ps_ret (pe_callTy (tupleK K) (by rfl) T.b_tuple bt_tuple (pa_cons (pe_callB (cr_SDI rfl) (by rfl) T.b_sorted bt_sorted (pa_cons (pe_call c_reached.G (hr.mono (by decide)) rfl c_reached.m c_reached.kp c_reached.b .nil pass0 (pa_cons (pv 0) (pa_cons (pe_ix (ixK K) (pv 0) pe_int (fun _ _ => rfl)) pa_nil))) pa_nil)) pa_nil)))), ?_⟩
  refine body_P h fun ds Q hT => ?_
  obtain ⟨s, rfl, hw, k⟩ := hT
  refine ws_ret (we_cb (wa_cons (we_sortedD (wc_callP ?_))))
  walk_at "w"
  refine rd_ixT (d := .int (s.start : Int)) rfl ?_
  walk_at "w"
  refine ⟨s, rfl, hw, fun kvs p ⟨N, h1, h2, h3⟩ hl => ⟨p, kvs, rfl, hl, fun ys g1 g2 => ?_⟩⟩
  rw [h1] at g1
  walk_at "w"
  refine rc_tuple (.inr rfl) ?_
  rw [sorted_reach hw h2 h3 g1 g2]
  exact k
theorem sc_actions_in : FnScope ["system", "state", "command"] ["system"] (defScope s_actions_in) := ⟨rfl, rfl, rfl, by decide +kernel, rfl, by decide +kernel, by decide +kernel⟩
def T_actions_in : List D → (Cell → Prop) → Prop := fun ds Q => ∃ (s : Sys), ds = [sysD s] ∧ s.Wf ∧ ∀ A : List (Nat × Nat), (∀ p, p ∈ A ↔ Rc s p.1 ∧ p.2 < s.k) → A.length ≤ 32 → Q (.imm (.lst (pairsD A)))
theorem len_actions_in : ∀ ds Q, T_actions_in ds Q → ds.length = 1 := fun ds Q ⟨s, h, _⟩ => by rw [h]; rfl
theorem ok_actions_in {f : Addr} {fd : FuncData} (T : Txt K mg) (F : FnP K "actions_in" s_actions_in f fd) {f_reachable_of : Addr} {fd_reachable_of : FuncData} (c_reachable_of : Cal P w K mg base "reachable_of" 3 ["system"] (spP T_reachable_of) f_reachable_of fd_reachable_of) : FnOk P w K mg base CX0 4 f fd ["system"] (spP T_actions_in) := by
  refine F.ok sc_actions_in (fun vs H Q E h => len_P len_actions_in h) (fun cdv A outer s H vs Q E hr h => ?_)
  have hu := hu_of hr
  refine ⟨_, PSs.nox (pss_one
      (ps_ret (pe_lc2 (own := [("state", 1), ("command", 2)]) (vs1 := [2]) (g := gName 1) (g1 := gName 2) rfl sc_actions_in.nd (piTK K (pe_call c_reachable_of.G (hr.mono (by decide)) rfl c_reachable_of.m c_reachable_of.kp c_reachable_of.b .nil pass0 (pa_cons (pv 0) pa_nil))) (blkOk_by (own := [("state", 1), ("command", 2)]) (N := ["system", "state", "command"]) (sc := defScope s_actions_in) (by decide +kernel)) (by decide) (fun _ _ _ _ _ => (pg_name (i := 1) sc_actions_in.nd rfl (by first | exact Or.inl rfl | exact Or.inr rfl))) (fun _ _ _ _ _ => pts_nil) (fun _ _ _ _ _ => (pi_range1 rfl T.b_range (pa_cons (pe_callB (lenK K) (by rfl) T.b_len bt_len (pa_cons (pe_ix (ixK K) (pv 0) pe_int (fun _ _ => rfl)) pa_nil)) pa_nil))) (fun _ _ _ _ _ => (pg_name (i := 2) sc_actions_in.nd rfl (by first | exact Or.inl rfl | exact Or.inr rfl))) (fun _ _ _ _ _ => pts_nil) (fun _ _ _ _ _ => (pe_tup (pa_cons (pv 1) (pa_cons (pv 2) pa_nil))))))), ?_⟩
  refine body_P h fun ds Q hT => ?_
  obtain ⟨s, rfl, hw, k⟩ := hT
  have hk4 := hw.k4
  have hk4 : s.k ≤ 4 := hk4
  have hr8 := Nat.le_trans (reach_len s) hw.n8
  refine ws_ret (we_lc2 (wi_tup ?_))
  walk_at "w"
  refine ⟨s, rfl, hw, _, rfl, _, rfl, fun i acc ρ' => ∃ A : List (Nat × Nat), acc = pairsD A ∧ (∀ p ∈ A, Rc s p.1 ∧ p.2 < s.k) ∧ (∀ j x, j < i → s.reach[j]? = some x → ∀ c, c < s.k → (x, c) ∈ A) ∧ A.length = i * s.k ∧ ρ' = [some (.imm (sysD s)), none, none], ⟨[], rfl, (fun p h => by cases h), (fun j x h => absurd h (Nat.not_lt_zero j)), by rw [Nat.zero_mul]; rfl, rfl⟩, ?_, ?_⟩
  · rintro i d acc ρ' hd ⟨A, rfl, hA, hi, hl, rfl⟩
    obtain ⟨x, hx, rfl⟩ := natD_at hd
    have hxr := hw.mem_reach.mp (List.mem_of_getElem? hx)
    have hi8 := (List.getElem?_eq_some_iff.mp hx).1
    refine wgv_name (by decide) ?_
    refine wt_yes ⟨rfl, wi_range ?_⟩
    walk_at "w"
    refine rd_ixT (d := .tup (tabsD s.cmds)) rfl ?_
    walk_at "w"
    refine rc_len (.inl rfl) ?_
    walk_at "w"
    refine ⟨s.k, by rw [tabsD_length]; rfl, by omega, fun j acc ρ' => ∃ A : List (Nat × Nat), acc = pairsD A ∧ (∀ p ∈ A, Rc s p.1 ∧ p.2 < s.k) ∧ (∀ j x, j < i → s.reach[j]? = some x → ∀ c, c < s.k → (x, c) ∈ A) ∧ (∀ c, c < j → (x, c) ∈ A) ∧ A.length = i * s.k + j ∧ ∃ x2, ρ' = [some (.imm (sysD s)), some (.imm (.int (x : Int))), x2], ⟨A, rfl, hA, hi, (fun c h => absurd h (Nat.not_lt_zero c)), hl, _, rfl⟩, ?_, ?_⟩
    · clear hA hi hl
      rintro j d acc ρ' hd ⟨A, rfl, hA, hi, hj, hl, x2, rfl⟩
      have hjk : j < s.k := by
        have := (List.getElem?_eq_some_iff.mp hd).1
        rw [rgD_length] at this; exact this
      rw [rgD_get hjk] at hd
      cases hd
      refine wgv_name (by decide) ?_
      refine wt_yes ⟨rfl, ?_⟩
      walk_at "w"
      have hik : i * s.k ≤ 8 * 4 := Nat.mul_le_mul (by omega) hk4
      refine ⟨by simp, by rw [pairsD_len]; omega, A ++ [(x, j)], by rw [pairsD_append]; rfl, fun p hp => ?_, fun u y h1 h2 c hc => List.mem_append_left _ (hi u y h1 h2 c hc), fun c hc => ?_, by rw [List.length_append, hl]; rfl, _, rfl⟩
      · rcases List.mem_append.mp hp with z | z
        · exact hA p z
        · rw [List.mem_singleton.mp z]; exact ⟨hxr, hjk⟩
      · by_cases e : c = j
        · subst e; exact List.mem_append_right _ (List.mem_cons_self ..)
        · exact List.mem_append_left _ (hj c (by omega))
    · clear hA hi hl
      rintro acc ρ' ⟨A, rfl, hA, hi, hj, hl, x2, rfl⟩
      rw [rgD_length] at hj hl
      refine ⟨A, rfl, hA, fun u y h1 h2 c hc => ?_, by rw [hl, Nat.succ_mul], rfl⟩
      by_cases e : u = i
      · subst e
        rw [hx] at h2; cases h2
        exact hj c hc
      · exact hi u y (by omega) h2 c hc
  · rintro acc ρ' ⟨A, rfl, hA, hi, hl, rfl⟩
    refine k A (fun p => ⟨hA p, fun ⟨h1, h2⟩ => ?_⟩) (by rw [hl, natD_length]; exact Nat.le_trans (Nat.mul_le_mul hr8 hk4) (by decide))
    obtain ⟨u, hu⟩ := List.mem_iff_getElem?.mp (hw.mem_reach.mpr h1)
    exact hi u p.1 (by rw [natD_length]; exact (List.getElem?_eq_some_iff.mp hu).1) hu p.2 h2
end
end K47

set_option Elab.async false
set_option linter.all false
set_option maxRecDepth 100000
set_option maxHeartbeats 4000000
namespace K47
open PySem L2
local macro_rules | `(tactic| walk_at "w1") => `(tactic| first
  | with_reducible refine ws_seq ?_
  | with_reducible refine ws_ret ?_
  | with_reducible refine ws_asg ?_
  | with_reducible refine ws_drop ?_
  | with_reducible refine ws_if ?_
  | with_reducible refine ws_next ?_
  | ((with_reducible refine' we_var ?hv ?_); (case hv => exact rfl))
  | with_reducible refine we_int ?_
  | with_reducible refine we_bl ?_
  | with_reducible refine we_non ?_
  | with_reducible refine we_str ?_
  | with_reducible refine we_callP ?_
  | with_reducible refine we_isi (by decide) ?_
  | with_reducible refine we_cb ?_
  | with_reducible refine we_op ?_
  | with_reducible refine we_un ?_
  | with_reducible refine we_chain ?_
  | with_reducible refine we_andV ?_
  | with_reducible refine we_orV ?_
  | with_reducible refine we_notV ?_
  | with_reducible refine we_if ?_
  | with_reducible refine we_tup ?_
  | with_reducible refine we_lst ?_
  | with_reducible refine wa_nil ?_
  | with_reducible refine wa_cons ?_
  | with_reducible refine wt_test ?_
  | with_reducible refine wt_B ?_
  | with_reducible refine wt_not ?_
  | with_reducible refine wt_and ?_
  | with_reducible refine wt_or ?_
  | with_reducible refine wt_yes ?_
  | with_reducible refine wt_truK ?_)
local macro_rules | `(tactic| walk_at "w") => `(tactic| repeat walk_at "w1")
section
variable {P : Program} {w : World} {K : PySem.W.Frag} {mg : Str → Option Value} {base : Heap}
theorem sc_law_each : FnScope ["_law_rows", "_law_found", "_law_row"] ["_law_rows"] (defScope s_law_each) := ⟨rfl, rfl, rfl, by decide +kernel, rfl, by decide +kernel, by decide +kernel⟩
def T_law_each : List D → (Cell → Prop) → Prop := fun ds Q => ∃ (xs : List Nat), ds = [.lst (natD xs)] ∧ xs.length ≤ 90000 ∧ ∀ ys : List Nat, ys.Nodup → (∀ x, x ∈ ys ↔ x ∈ xs) → Q (.imm (.lst (natD ys)))
theorem len_law_each : ∀ ds Q, T_law_each ds Q → ds.length = 1 := fun ds Q ⟨s, h, _⟩ => by rw [h]; rfl
theorem mem_cast {x : Nat} {ys : List Nat} : (x : Int) ∈ ys.map (fun x : Nat => (x : Int)) ↔ x ∈ ys := by
  refine ⟨fun h => ?_, fun h => List.mem_map.mpr ⟨x, h, rfl⟩⟩
  obtain ⟨y, hy, e⟩ := List.mem_map.mp h
  rw [← nat_cast_inj _ _ e]; exact hy
theorem ok_law_each {f : Addr} {fd : FuncData} (T : Txt K mg) (F : FnP K "_law_each" s_law_each f fd) : FnOk P w K mg base CX0 1 f fd ["_law_rows"] (spP T_law_each) := by
  refine F.ok sc_law_each (fun vs H Q E h => len_P len_law_each h) (fun cdv A outer s H vs Q E hr h => ?_)
  have hu := hu_of hr
  refine ⟨_, PSs.nox (pss_cons
      (ps_set (i := 1) sc_law_each.nd rfl (by first | exact Or.inl rfl | exact Or.inr rfl) (pe_lst pa_nil))
      (pss_cons
      (ps_for PassesOwn.never rfl (piLK K (pv 0)) (pg_name (i := 2) sc_law_each.nd rfl (by first | exact Or.inl rfl | exact Or.inr rfl)) (pss_one
       (ps_if (pt_cmpR (notInK K) (pv 2) (pv 1) (by with_unfolding_all rfl)) (pss_one
        (ps_expr (bmK K (pe_bm PySem.F.plainAttrs_list PySem.F.slot_list_append PySem.F.type_list_append mt_append (pv 1) (pa_cons (pv 2) pa_nil))))) pss_nil)))
      (pss_one
      (ps_ret (pv 1))))), ?_⟩
  refine body_P h fun ds Q hT => ?_
  obtain ⟨xs, rfl, hz, k⟩ := hT
  refine ws_seq (ws_asgC (wc_lst ?_))
  walk_at "w"
  refine ⟨by simp, fun q => ?_⟩
  refine ws_seq (ws_for (wi_list (we_var (d := .lst (natD xs)) rfl ⟨_, rfl, fun i ρ' => ∃ ys x2, ys.Nodup ∧ (∀ x ∈ ys, x ∈ xs) ∧ (∀ j x, j < i → xs[j]? = some x → x ∈ ys) ∧ ys.length ≤ i ∧ ρ' = [some (.imm (.lst (natD xs))), some (.ol q (natD ys)), x2], ⟨[], none, List.nodup_nil, (fun x h => by cases h), (fun j x h => absurd h (Nat.not_lt_zero j)), Nat.le_refl _, rfl⟩, ?_, ?_⟩)))
  · rintro i d ρ' hd ⟨ys, x2, h1, h2, h3, h4, rfl⟩
    obtain ⟨x, hx, rfl⟩ := natD_at hd
    have hix := (List.getElem?_eq_some_iff.mp hx).1
    refine wg_name (ws_if (wt_test (we_notInOl ?_)))
    walk_at "w"
    refine ⟨q, x, ys.map fun x : Nat => (x : Int), rfl, by rw [← natD_ints]; rfl, _, rfl, fun hb => ?_, fun hb => ?_⟩
    · have hn : x ∉ ys := fun z => by
        rw [decide_eq_true (mem_cast.mpr z)] at hb
        cases hb
      refine ws_app rfl ?_
      walk_at "w"
      refine ⟨_, rfl, by rw [natD_length]; omega, ys ++ [x], some (.imm (.int (x : Int))), List.nodup_append.mpr ⟨h1, by simp, fun a ha b hb e => ?_⟩, fun y hy => ?_, fun j y hj hy => ?_, by rw [List.length_append, List.length_singleton]; omega, by rw [natD_append]; rfl⟩
      · rw [e, List.mem_singleton.mp hb] at ha; exact hn ha
      · rcases List.mem_append.mp hy with z | z
        · exact h2 y z
        · rw [List.mem_singleton.mp z]; exact List.mem_of_getElem? hx
      · by_cases e : j = i
        · subst e
          rw [hx] at hy; cases hy
          exact List.mem_append_right _ (List.mem_cons_self ..)
        · exact List.mem_append_left _ (h3 j y (by omega) hy)
    · have hn : x ∈ ys := by
        refine Classical.byContradiction fun z => ?_
        rw [decide_eq_false fun q => z (mem_cast.mp q)] at hb
        cases hb
      refine ws_next ⟨ys, _, h1, h2, fun j y hj hy => ?_, by omega, rfl⟩
      by_cases e : j = i
      · subst e
        rw [hx] at hy; cases hy
        exact hn
      · exact h3 j y (by omega) hy
  · rintro ρ' ⟨ys, x2, h1, h2, h3, h4, rfl⟩
    refine ws_freeze (i := 1) rfl ?_
    walk_at "w"
    refine k ys h1 fun x => ⟨h2 x, fun hx => ?_⟩
    obtain ⟨u, hu⟩ := List.mem_iff_getElem?.mp hx
    exact h3 u x (by rw [natD_length]; exact (List.getElem?_eq_some_iff.mp hu).1) hu
theorem sc_law_reachable : FnScope ["_law_system_here", "_law_found", "_law_turn", "_law_state", "_law_table"] ["_law_system_here"] (defScope s_law_reachable) := ⟨rfl, rfl, rfl, by decide +kernel, rfl, by decide +kernel, by decide +kernel⟩
def T_law_reachable : List D → (Cell → Prop) → Prop := fun ds Q => ∃ (s : Sys), ds = [sysD s] ∧ s.Wf ∧ s.n ≤ 4 ∧ Q (.imm (.lst (natD s.reach)))
theorem len_law_reachable : ∀ ds Q, T_law_reachable ds Q → ds.length = 1 := fun ds Q ⟨s, h, _⟩ => by rw [h]; rfl
/-- after i rounds: all, or many -/
def Sys.Rd (s : Sys) (i : Nat) (xs : List Nat) : Prop := s.start ∈ xs ∧ (∀ x ∈ xs, Rc s x) ∧ ((∀ x, Rc s x → x ∈ xs) ∨ ∃ ys : List Nat, ys.Nodup ∧ (∀ y ∈ ys, y ∈ xs) ∧ i + 1 ≤ ys.length)
theorem Sys.Rd.next {s : Sys} {i : Nat} {xs ys : List Nat} (h : s.Rd i xs) (h1 : ∀ x ∈ xs, x ∈ ys) (h2 : ∀ x ∈ ys, Rc s x) (h3 : ∀ x ∈ xs, ∀ c, c < s.k → s.nx x c ∈ ys) : s.Rd (i + 1) ys := by
  refine ⟨h1 _ h.1, h2, ?_⟩
  rcases h.2.2 with z | ⟨zs, a, b, c⟩
  · exact .inl fun x hx => h1 x (z x hx)
  · by_cases q : ∀ x ∈ xs, ∀ c, c < s.k → s.nx x c ∈ xs
    · refine .inl fun x hx => ?_
      refine h1 x ?_
      induction hx with
      | start => exact h.1
      | step _ hk ih => exact q _ ih _ hk
    · obtain ⟨x, hq⟩ := Classical.not_forall.mp q
      obtain ⟨hx, hq⟩ := Classical.not_imp.mp hq
      obtain ⟨c', hq⟩ := Classical.not_forall.mp hq
      obtain ⟨hc, hq⟩ := Classical.not_imp.mp hq
      refine .inr ⟨s.nx x c' :: zs, List.nodup_cons.mpr ⟨fun z => hq (b _ z), a⟩, fun y hy => ?_, by rw [List.length_cons]; omega⟩
      rcases List.mem_cons.mp hy with e | z
      · rw [e]; exact h3 x hx c' hc
      · exact h1 y (b y z)
theorem Sys.Rd.last {s : Sys} (w : s.Wf) {xs : List Nat} (h : s.Rd s.n xs) {x : Nat} : x ∈ xs ↔ Rc s x := by
  refine ⟨h.2.1 x, fun hx => ?_⟩
  rcases h.2.2 with z | ⟨zs, a, b, c⟩
  · exact z x hx
  · exfalso
    have : zs.length ≤ (List.range s.n).length := a.length_le_of_subset fun y hy => List.mem_range.mpr ((h.2.1 y (b y hy)).lt w)
    rw [List.length_range] at this
    omega
theorem ok_law_reachable {f : Addr} {fd : FuncData} (T : Txt K mg) (F : FnP K "_law_reachable" s_law_reachable f fd) {f_law_each : Addr} {fd_law_each : FuncData} (c_law_each : Cal P w K mg base "_law_each" 1 ["_law_rows"] (spP T_law_each) f_law_each fd_law_each) : FnOk P w K mg base CX0 2 f fd ["_law_system_here"] (spP T_law_reachable) := by
  refine F.ok sc_law_reachable (fun vs H Q E h => len_P len_law_reachable h) (fun cdv A outer s H vs Q E hr h => ?_)
  have hu := hu_of hr
  refine ⟨_, PSs.nox (pss_cons
      (ps_set (i := 1) sc_law_reachable.nd rfl (by first | exact Or.inl rfl | exact Or.inr rfl) (pe_lst (pa_cons (pe_ix (ixK K) (pv 0) pe_int (fun _ _ => rfl)) pa_nil)))
      (pss_cons
      (ps_for PassesOwn.never rfl (pi_range1 rfl T.b_range (pa_cons (pe_ix (ixK K) (pv 0) pe_int (fun _ _ => rfl)) pa_nil)) (pg_name (i := 2) sc_law_reachable.nd rfl (by first | exact Or.inl rfl | exact Or.inr rfl)) (pss_one
       (ps_for PassesOwn.never rfl (piLK K (pe_callTy (listK K) (by rfl) T.b_list bt_list (pa_cons (pv 1) pa_nil))) (pg_name (i := 3) sc_law_reachable.nd rfl (by first | exact Or.inl rfl | exact Or.inr rfl)) (pss_one
        (ps_set (i := 1) sc_law_reachable.nd rfl (by first | exact Or.inl rfl | exact Or.inr rfl) (pe_op (plusK K) (pv 1) (pe_lc (own := [("_law_table", 4)]) (g := gName 4) rfl sc_law_reachable.nd (piTK K (pe_ix (ixK K) (pv 0) pe_int (fun _ _ => rfl))) (blkOk_by (own := [("_law_table", 4)]) (N := ["_law_system_here", "_law_found", "_law_turn", "_law_state", "_law_table"]) (sc := defScope s_law_reachable) (by decide +kernel)) (fun _ _ _ _ _ => (pg_name (i := 4) sc_law_reachable.nd rfl (by first | exact Or.inl rfl | exact Or.inr rfl))) (fun _ _ _ _ _ => (pts_one (pt_cmpR (notInK K) (pe_ix (ixK K) (pv 4) (pv 3) (fun _ _ => rfl)) (pv 1) (by with_unfolding_all rfl)))) (fun _ _ _ _ _ => (pe_ix (ixK K) (pv 4) (pv 3) (fun _ _ => rfl))))))))))
      (pss_one
      (ps_ret (pe_callB (sortedK K) (by rfl) T.b_sorted bt_sorted (pa_cons (pe_callTy (listK K) (by rfl) T.b_list bt_list (pa_cons (pe_call c_law_each.G (hr.mono (by decide)) rfl c_law_each.m c_law_each.kp c_law_each.b .nil pass0 (pa_cons (pv 1) pa_nil)) pa_nil)) pa_nil)))))), ?_⟩
  refine body_P h fun ds Q hT => ?_
  obtain ⟨s, rfl, hw, hn4, k⟩ := hT
  have hk4 := hw.k4
  have hk4 : s.k ≤ 4 := hk4
  walk_at "w"
  refine rd_ixT (d := .int (s.start : Int)) rfl ?_
  walk_at "w"
  refine ⟨by simp, ?_⟩
  refine ws_seq (ws_for (wi_range ?_))
  walk_at "w"
  refine rd_ixT (d := .int (s.n : Int)) rfl ?_
  walk_at "w"
  refine ⟨s.n, rfl, by omega, fun i ρ' => ∃ xs x2 x3, s.Rd i xs ∧ xs.length ≤ 5 ^ i ∧ ρ' = [some (.imm (sysD s)), some (.imm (.lst (natD xs))), x2, x3, none], ⟨[s.start], none, none, ⟨List.mem_cons_self .., (fun x h => by rw [List.mem_singleton.mp h]; exact .start), .inr ⟨[s.start], by simp, (fun y h => h), Nat.le_refl _⟩⟩, Nat.le_refl _, rfl⟩, ?_, ?_⟩
  · rintro i d ρ' hd ⟨xs, x2, x3, hR, hl, rfl⟩
    have hin : i < s.n := by
      have := (List.getElem?_eq_some_iff.mp hd).1
      rw [rgD_length] at this; exact this
    have h5 : 5 ^ i ≤ 5 ^ 4 := Nat.pow_le_pow_right (by decide) (by omega)
    have h5 : xs.length ≤ 625 := Nat.le_trans hl h5
    refine wg_name (ws_for (wi_list ?_))
    walk_at "w"
    refine rc_list (.inr rfl) ?_
    refine ⟨natD xs, rfl, fun j ρ' => ∃ ys x2 x3, (∀ x ∈ xs, x ∈ ys) ∧ (∀ x ∈ ys, Rc s x) ∧ (∀ u x, u < j → xs[u]? = some x → ∀ c, c < s.k → s.nx x c ∈ ys) ∧ ys.length ≤ xs.length + 4 * j ∧ ρ' = [some (.imm (sysD s)), some (.imm (.lst (natD ys))), x2, x3, none], ⟨xs, _, _, (fun x h => h), hR.2.1, (fun u x h => absurd h (Nat.not_lt_zero u)), Nat.le_refl _, rfl⟩, ?_, ?_⟩
    · rintro j d ρ' hd ⟨ys, x2, x3, h1, h2, h3, h4, rfl⟩
      obtain ⟨x, hx, rfl⟩ := natD_at hd
      have hjx := (List.getElem?_eq_some_iff.mp hx).1
      have hxr := hR.2.1 x (List.mem_of_getElem? hx)
      refine wg_name ?_
      walk_at "w"
      refine we_lc (wi_tup ?_)
      walk_at "w"
      refine rd_ixT (d := .tup (tabsD s.cmds)) rfl ?_
      refine ⟨tabsD s.cmds, rfl, fun c acc ρ' => ∃ zs, acc = natD zs ∧ (∀ z ∈ zs, Rc s z) ∧ (∀ u, u < c → s.nx x u ∈ ys ∨ s.nx x u ∈ zs) ∧ zs.length ≤ c ∧ ρ' = [some (.imm (sysD s)), some (.imm (.lst (natD ys))), x2, some (.imm (.int (x : Int))), none], by rw [tabsD_length]; show s.k ≤ _; omega, ⟨[], rfl, (fun z h => by cases h), (fun u h => absurd h (Nat.not_lt_zero u)), Nat.le_refl _, rfl⟩, ?_, ?_⟩
      · rintro c d acc ρ' hd ⟨zs, rfl, g1, g2, g3, rfl⟩
        have hck : c < s.k := by
          have := (List.getElem?_eq_some_iff.mp hd).1
          rw [tabsD_length] at this; exact this
        have hd' : d = .tup (natD (s.cmds.getD c [])) := by
          obtain ⟨t, ht, e⟩ := tabs_at hd
          rw [e, List.getD_eq_getElem?_getD, ht]; rfl
        subst hd'
        have hnx := nx_at hw (hxr.lt hw) hck
        refine wgv_name (by decide) ?_
        refine wt_test ?_
        walk_at "w"
        refine rd_ixT hnx ?_
        walk_at "w"
        refine rd_notIn (ns := ys.map fun x : Nat => (x : Int)) (.inr (by rw [natD_ints])) ⟨_, rfl, fun hb => ?_, fun hb => ?_⟩
        · walk_at "w"
          refine rd_ixT hnx ?_
          refine ⟨zs ++ [s.nx x c], by rw [natD_append]; rfl, fun z hz => ?_, fun u hu => ?_, by rw [List.length_append, List.length_singleton]; omega, rfl⟩
          · rcases List.mem_append.mp hz with q | q
            · exact g1 z q
            · rw [List.mem_singleton.mp q]; exact .step hxr hck
          · by_cases e : u = c
            · subst e; exact .inr (List.mem_append_right _ (List.mem_cons_self ..))
            · exact (g2 u (by omega)).imp (fun q => q) fun q => List.mem_append_left _ q
        · have hm : s.nx x c ∈ ys := by
            refine Classical.byContradiction fun z => ?_
            rw [decide_eq_false fun q => z (mem_cast.mp q)] at hb
            cases hb
          refine ⟨zs, rfl, g1, fun u hu => ?_, by omega, rfl⟩
          by_cases e : u = c
          · subst e; exact .inl hm
          · exact g2 u (by omega)
      · rintro acc ρ' ⟨zs, rfl, g1, g2, g3, rfl⟩
        rw [tabsD_length] at g2 g3
        have g3 : zs.length ≤ s.k := g3
        refine rd_plusL (by rw [natD_length, natD_length]; omega) ?_
        refine ⟨ys ++ zs, _, _, fun x hx => List.mem_append_left _ (h1 x hx), fun y hy => ?_, fun u y hu hy c hc => ?_, by rw [List.length_append]; omega, by rw [natD_append]; rfl⟩
        · rcases List.mem_append.mp hy with q | q
          · exact h2 y q
          · exact g1 y q
        · by_cases e : u = j
          · subst e
            rw [hx] at hy; cases hy
            rcases g2 c hc with q | q
            · exact List.mem_append_left _ q
            · exact List.mem_append_right _ q
          · exact List.mem_append_left _ (h3 u y (by omega) hy c hc)
    · rintro ρ' ⟨ys, x2, x3, h1, h2, h3, h4, rfl⟩
      rw [natD_length] at h3 h4
      refine ⟨ys, _, _, hR.next h1 h2 fun x hx c hc => ?_, by rw [Nat.pow_succ]; omega, rfl⟩
      obtain ⟨u, hu⟩ := List.mem_iff_getElem?.mp hx
      exact h3 u x (List.getElem?_eq_some_iff.mp hu).1 hu c hc
  · rintro ρ' ⟨xs, x2, x3, hR, hl, rfl⟩
    rw [rgD_length] at hR hl
    have h5 : 5 ^ s.n ≤ 5 ^ 4 := Nat.pow_le_pow_right (by decide) (by omega)
    have h5 : xs.length ≤ 625 := Nat.le_trans hl h5
    walk_at "w"
    refine ⟨xs, rfl, by omega, fun ys h1 h2 => ⟨_, rfl, ?_⟩⟩
    have hm : ∀ x, x ∈ ys ↔ Rc s x := fun x => (h2 x).trans (hR.last hw)
    have hy : ys.length ≤ (List.range s.n).length := h1.length_le_of_subset fun y hy => List.mem_range.mpr (((hm y).mp hy).lt hw)
    rw [List.length_range] at hy
    walk_at "w"
    refine rc_list (.inr rfl) ?_
    walk_at "w"
    rw [natD_ints]
    refine rc_sorted (by rw [List.length_map]; omega) fun ms g1 g2 => ?_
    rw [sorted_reach hw h1 hm g1 g2]
    exact k
end
end K47

set_option Elab.async false
set_option linter.all false
set_option maxRecDepth 100000
set_option maxHeartbeats 4000000
namespace K47
open PySem L2
local macro_rules | `(tactic| walk_at "w1") => `(tactic| first
  | with_reducible refine ws_seq ?_
  | with_reducible refine ws_ret ?_
  | with_reducible refine ws_asg ?_
  | with_reducible refine ws_drop ?_
  | with_reducible refine ws_if ?_
  | with_reducible refine ws_next ?_
  | ((with_reducible refine' we_var ?hv ?_); (case hv => exact rfl))
  | with_reducible refine we_int ?_
  | with_reducible refine we_bl ?_
  | with_reducible refine we_non ?_
  | with_reducible refine we_str ?_
  | with_reducible refine we_callP ?_
  | with_reducible refine we_isi (by decide) ?_
  | with_reducible refine we_cb ?_
  | with_reducible refine we_op ?_
  | with_reducible refine we_un ?_
  | with_reducible refine we_chain ?_
  | with_reducible refine we_andV ?_
  | with_reducible refine we_orV ?_
  | with_reducible refine we_notV ?_
  | with_reducible refine we_if ?_
  | with_reducible refine we_tup ?_
  | with_reducible refine we_lst ?_
  | with_reducible refine wa_nil ?_
  | with_reducible refine wa_cons ?_
  | with_reducible refine wt_test ?_
  | with_reducible refine wt_B ?_
  | with_reducible refine wt_not ?_
  | with_reducible refine wt_and ?_
  | with_reducible refine wt_or ?_
  | with_reducible refine wt_yes ?_
  | with_reducible refine wt_truK ?_)
local macro_rules | `(tactic| walk_at "w") => `(tactic| repeat walk_at "w1")
/-! ### steps told, blocks -/
abbrev SL := List (D × (Nat × Nat))
def entD (e : D × (Nat × Nat)) : D := .tup [e.1, pD (ip e.2)]
def stD (X : SL) : List D := X.map entD
theorem stD_append (X Y : SL) : stD (X ++ Y) = stD X ++ stD Y := List.map_append
theorem stD_len (X : SL) : (stD X).length = X.length := List.length_map _
theorem stD_at {X : SL} {i : Nat} {d : D} (h : (stD X)[i]? = some d) : ∃ e, X[i]? = some e ∧ d = entD e := by
  unfold stD at h
  rw [List.getElem?_map] at h
  cases e : X[i]? with
  | none => rw [e] at h; cases h
  | some c => rw [e] at h; exact ⟨c, rfl, (Option.some.inj h).symm⟩
/-- what a told step is -/
def Sys.Snd (s : Sys) (B : List Nat) (X : SL) : Prop := ∀ e ∈ X, s.pairOf B e.1 = some e.2 ∧ bl B e.2.1 ≠ bl B e.2.2
theorem Sys.Snd.nil {s : Sys} {B : List Nat} : s.Snd B [] := fun e h => by cases h
theorem Sys.Snd.append {s : Sys} {B : List Nat} {X Y : SL} (h : s.Snd B X) (k : s.Snd B Y) : s.Snd B (X ++ Y) := fun e he => (List.mem_append.mp he).elim (h e) (k e)
theorem Sys.Snd.one {s : Sys} {B : List Nat} {d : D} {p : Nat × Nat} (h : s.pairOf B d = some p) (k : bl B p.1 ≠ bl B p.2) : s.Snd B [(d, p)] := fun e he => by
  rw [List.mem_singleton.mp he]; exact ⟨h, k⟩
def Sys.CC (s : Sys) (B : List Nat) : Prop := ∀ a b c, Rc s a → Rc s b → c < s.k → bl B a = bl B b → bl B (s.nx a c) = bl B (s.nx b c)
def Sys.AC (s : Sys) (B : List Nat) : Prop := ∀ a c q r, Rc s a → c < s.k → s.Sq q → s.Sq r → bl B (s.led (s.nx a c) q) = bl B (s.led (s.nx a c) r) → bl B (s.led a q) = bl B (s.led a r)
theorem Sys.rd_nat {s : Sys} {x : Nat} (h : Rc s x) : s.rd (.int (x : Int)) = some x := by
  rw [Sys.rd_int, if_pos ⟨by omega, by rw [Int.toNat_natCast]; exact h⟩, Int.toNat_natCast]
theorem Sys.cm_nat {s : Sys} {x : Nat} (h : x < s.k) : s.cm (.int (x : Int)) = some x := by
  rw [Sys.cm_int, if_pos ⟨by omega, by omega⟩, Int.toNat_natCast]
theorem Sys.cms_nat {s : Sys} : ∀ {q : List Nat}, s.Sq q → s.cms (natD q) = some q
  | [], _ => rfl
  | c :: q, h => by
    show s.cms (.int (c : Int) :: natD q) = _
    unfold Sys.cms
    rw [Sys.cm_nat (h c (List.mem_cons_self ..)), Sys.cms_nat (q := q) fun d hd => h d (List.mem_cons_of_mem _ hd)]
theorem Sys.sq_nat {s : Sys} {q : List Nat} (h : s.Sq q) (hl : q.length ≤ 64) : s.sq (.tup (natD q)) = some q := by
  rw [Sys.sq_tup, if_pos (by rw [natD_length]; exact hl), Sys.cms_nat h]
def cItem (a b c : Nat) : D := .tup [.str sC, .int (a : Int), .int (b : Int), .int (c : Int)]
def aItem (a c : Nat) (q r : List Nat) : D := .tup [.str sA, .int (a : Int), .int (c : Int), .tup (natD q), .tup (natD r)]
theorem Sys.pair_c {s : Sys} {B : List Nat} {a b c : Nat} (ha : Rc s a) (hb : Rc s b) (hc : c < s.k) (h : bl B a = bl B b) : s.pairOf B (cItem a b c) = some (s.nx a c, s.nx b c) := by
  show s.tailP B sC [_, _, _] = _
  unfold Sys.tailP
  show (if sC = sC then s.cmdP B _ _ _ else none) = _
  rw [if_pos rfl]
  unfold Sys.cmdP
  rw [Sys.rd_nat ha, Sys.rd_nat hb, Sys.cm_nat hc]
  show (if bl B a = bl B b then _ else _) = _
  rw [if_pos h]
theorem Sys.pair_a {s : Sys} {B : List Nat} {a c : Nat} {q r : List Nat} (ha : Rc s a) (hc : c < s.k) (hq : s.Sq q) (hr : s.Sq r) (lq : q.length ≤ 64) (lr : r.length ≤ 64) (h : bl B (s.led (s.nx a c) q) = bl B (s.led (s.nx a c) r)) : s.pairOf B (aItem a c q r) = some (s.led a q, s.led a r) := by
  show s.tailP B sA [_, _, _, _] = _
  unfold Sys.tailP
  show (if sA = sA then s.actP B _ _ _ _ else none) = _
  rw [if_pos rfl]
  unfold Sys.actP
  rw [Sys.rd_nat ha, Sys.cm_nat hc, Sys.sq_nat hq lq, Sys.sq_nat hr lr]
  show (if bl B _ = bl B _ then _ else _) = _
  rw [if_pos h]
/-- how many numbers -/
def cnt (n : Nat) (B : List Nat) : Nat := ((List.range n).filter fun v => decide (v ∈ B)).length
theorem filter_nodup {α : Type} {p : α → Bool} {l : List α} (h : l.Nodup) : (l.filter p).Nodup := List.nodup_iff_pairwise_ne.mpr ((List.nodup_iff_pairwise_ne.mp h).filter _)
theorem range_nodup (n : Nat) : (List.range n).Nodup := List.nodup_iff_pairwise_ne.mpr (List.pairwise_lt_range.imp fun h => by omega)
theorem bl_mem {B : List Nat} {x : Nat} (h : x < B.length) : bl B x ∈ B := by
  unfold bl
  rw [getD_at h]
  exact List.getElem_mem h
theorem joinB_mem {B : List Nat} {a b x : Nat} (ha : a < B.length) (h : bl B a ≠ bl B b) (hx : x ∈ joinB B a b) : x ∈ B ∧ x ≠ bl B b := by
  unfold joinB at hx
  obtain ⟨y, hy, e⟩ := List.mem_map.mp hx
  by_cases q : y = bl B b
  · rw [if_pos q] at e
    subst e
    exact ⟨bl_mem ha, h⟩
  · rw [if_neg q] at e
    subst e
    exact ⟨hy, q⟩
theorem cnt_join {n : Nat} {B : List Nat} (hv : ∀ v ∈ B, v < n) {a b : Nat} (ha : a < B.length) (hb : b < B.length) (h : bl B a ≠ bl B b) : cnt n (joinB B a b) < cnt n B := by
  unfold cnt
  refine List.Nodup.length_le_of_subset (l₁ := bl B b :: (List.range n).filter fun v => decide (v ∈ joinB B a b)) (List.nodup_cons.mpr ⟨fun z => ?_, filter_nodup (range_nodup n)⟩) fun v hv' => ?_
  · exact (joinB_mem ha h (of_decide_eq_true (List.mem_filter.mp z).2)).2 rfl
  · rcases List.mem_cons.mp hv' with e | z
    · rw [e]
      exact List.mem_filter.mpr ⟨List.mem_range.mpr (hv _ (bl_mem hb)), decide_eq_true (bl_mem hb)⟩
    · obtain ⟨z1, z2⟩ := List.mem_filter.mp z
      exact List.mem_filter.mpr ⟨z1, decide_eq_true (joinB_mem ha h (of_decide_eq_true z2)).1⟩
theorem cnt_pos {n : Nat} {B : List Nat} (hv : ∀ v ∈ B, v < n) (h : 0 < B.length) : 0 < cnt n B := by
  unfold cnt
  exact List.length_pos_of_mem (List.mem_filter.mpr ⟨List.mem_range.mpr (hv _ (bl_mem h)), decide_eq_true (bl_mem h)⟩)
theorem cnt_le (n : Nat) (B : List Nat) : cnt n B ≤ n := by
  unfold cnt
  have := List.length_filter_le (fun v => decide (v ∈ B)) (List.range n)
  rw [List.length_range] at this
  exact this
/-- closed's answer -/
structure Sys.Cl (s : Sys) (B : List Nat) (X : SL) : Prop where
  stable : s.Stable B
  run : s.run (List.range s.n) (X.map (·.1)) = some B
  len : X.length ≤ 7
/-- closed's rounds -/
structure Sys.Cr (s : Sys) (B : List Nat) (X : SL) : Prop where
  len : B.length = s.n
  val : ∀ v ∈ B, v < s.n
  run : s.run (List.range s.n) (X.map (·.1)) = some B
  few : X.length + cnt s.n B ≤ s.n
theorem Sys.Wf.cr0 {s : Sys} (w : s.Wf) : s.Cr (List.range s.n) [] where
  len := List.length_range
  val := fun v h => List.mem_range.mp h
  run := rfl
  few := by have := cnt_le s.n (List.range s.n); simp; exact this
theorem Sys.Cr.next {s : Sys} (w : s.Wf) {B : List Nat} {X : SL} (h : s.Cr B X) {d : D} {p : Nat × Nat} (h1 : s.pairOf B d = some p) (h2 : bl B p.1 ≠ bl B p.2) : s.Cr (joinB B p.1 p.2) (X ++ [(d, p)]) ∧ cnt s.n (joinB B p.1 p.2) < cnt s.n B := by
  obtain ⟨p1, p2⟩ := w.pairOf_lt h1
  have hc := cnt_join h.val (by rw [h.len]; exact p1) (by rw [h.len]; exact p2) h2
  refine ⟨⟨by rw [joinB_len]; exact h.len, fun v hv => h.val v (joinB_mem (by rw [h.len]; exact p1) h2 hv).1, ?_, by rw [List.length_append, List.length_singleton]; have := h.few; omega⟩, hc⟩
  rw [List.map_append, Sys.run_append, h.run]
  show s.run B [d] = _
  rw [Sys.run_cons, h1]
  rfl
theorem Sys.Cr.cl {s : Sys} (w : s.Wf) {B : List Nat} {X : SL} (h : s.Cr B X) (h1 : s.CC B) (h2 : s.AC B) : s.Cl B X where
  stable := ⟨h.len, h1, h2⟩
  run := h.run
  len := by
    have := cnt_pos h.val (by rw [h.len]; exact w.n1)
    have := h.few
    have := w.n8
    omega
theorem Sys.Wf.cc0 {s : Sys} (w : s.Wf) : s.CC (List.range s.n) := fun a b c ha hb hc e => by
  rw [bl_range (ha.lt w), bl_range (hb.lt w)] at e
  rw [e]
/-- two closures are alike -/
theorem Sys.Cl.same {s : Sys} (w : s.Wf) {B C : List Nat} {X Y : SL} (h : s.Cl B X) (k : s.Cl C Y) {x y : Nat} (hx : x < s.n) (hy : y < s.n) : bl B x = bl B y ↔ bl C x = bl C y :=
  ⟨(Sys.run_sound w k.stable List.length_range Ref.range h.run).1 x y hx hy, (Sys.run_sound w h.stable List.length_range Ref.range k.run).1 x y hx hy⟩

section
variable {P : Program} {w : World} {K : PySem.W.Frag} {mg : Str → Option Value} {base : Heap}
theorem sc_command_steps : FnScope ["system", "blocks", "found", "reachable", "one", "other", "command", "pair"] ["system", "blocks"] (defScope s_command_steps) := ⟨rfl, rfl, rfl, by decide +kernel, rfl, by decide +kernel, by decide +kernel⟩
def T_command_steps : List D → (Cell → Prop) → Prop := fun ds Q => ∃ (s : Sys) (B : List Nat), ds = [sysD s, .lst (natD B)] ∧ s.Wf ∧ B.length = s.n ∧ ∀ X, s.Snd B X → (X = [] → s.CC B) → X.length ≤ 1000 → Q (.imm (.lst (stD X)))
theorem len_command_steps : ∀ ds Q, T_command_steps ds Q → ds.length = 2 := fun ds Q ⟨s, B, h, _⟩ => by rw [h]; rfl
/-- what is told of a state, another one, a command -/
def Sys.ct (s : Sys) (B : List Nat) (X : SL) (a b c : Nat) : Prop := X = [] → a < b → bl B a = bl B b → bl B (s.nx a c) = bl B (s.nx b c)
noncomputable def csR (s : Sys) (B : List Nat) (q : Addr) (X : SL) (x4 x5 x6 x7 : Option Cell) : Rho := [some (.imm (sysD s)), some (.imm (.lst (natD B))), some (.ol q (stD X)), some (.imm (.tup (natD s.reach))), x4, x5, x6, x7]
theorem ok_command_steps {f : Addr} {fd : FuncData} (T : Txt K mg) (F : FnP K "command_steps" s_command_steps f fd) {f_reachable_of : Addr} {fd_reachable_of : FuncData} (c_reachable_of : Cal P w K mg base "reachable_of" 3 ["system"] (spP T_reachable_of) f_reachable_of fd_reachable_of) {f_step : Addr} {fd_step : FuncData} (c_step : Cal P w K mg base "step" 1 ["system", "state", "command"] (spP T_step) f_step fd_step) : FnOk P w K mg base CX0 4 f fd ["system", "blocks"] (spP T_command_steps) := by
  refine F.ok sc_command_steps (fun vs H Q E h => len_P len_command_steps h) (fun cdv A outer s H vs Q E hr h => ?_)
  have hu := hu_of hr
  refine ⟨_, PSs.nox (pss_cons
      (ps_set (i := 2) sc_command_steps.nd rfl (by first | exact Or.inl rfl | exact Or.inr rfl) (pe_lst pa_nil))
      (pss_cons
      (ps_set (i := 3) sc_command_steps.nd rfl (by first | exact Or.inl rfl | exact Or.inr rfl) (pe_call c_reachable_of.G (hr.mono (by decide)) rfl c_reachable_of.m c_reachable_of.kp c_reachable_of.b .nil pass0 (pa_cons (pv 0) pa_nil)))
      (pss_cons
      (ps_for PassesOwn.never rfl (piTK K (pv 3)) (pg_name (i := 4) sc_command_steps.nd rfl (by first | exact Or.inl rfl | exact Or.inr rfl)) (pss_one
       (ps_for PassesOwn.never rfl (piTK K (pv 3)) (pg_name (i := 5) sc_command_steps.nd rfl (by first | exact Or.inl rfl | exact Or.inr rfl)) (pss_one
        (ps_for PassesOwn.never rfl (pi_range1 rfl T.b_range (pa_cons (pe_callB (lenK K) (by rfl) T.b_len bt_len (pa_cons (pe_ix (ixK K) (pv 0) pe_int (fun _ _ => rfl)) pa_nil)) pa_nil)) (pg_name (i := 6) sc_command_steps.nd rfl (by first | exact Or.inl rfl | exact Or.inr rfl)) (pss_cons
         (ps_set (i := 7) sc_command_steps.nd rfl (by first | exact Or.inl rfl | exact Or.inr rfl) (pe_tup (pa_cons (pe_call c_step.G (hr.mono (by decide)) rfl c_step.m c_step.kp c_step.b .nil pass0 (pa_cons (pv 0) (pa_cons (pv 4) (pa_cons (pv 6) pa_nil)))) (pa_cons (pe_call c_step.G (hr.mono (by decide)) rfl c_step.m c_step.kp c_step.b .nil pass0 (pa_cons (pv 0) (pa_cons (pv 5) (pa_cons (pv 6) pa_nil)))) pa_nil))))
         (pss_one
         (ps_if (PW.pt (pw_and (pt_cmpR op_lt (pv 4) (pv 5) (nomark _)) (pw_and (pt_cmpR op_eq (pe_ix (ixK K) (pv 1) (pv 4) (fun _ _ => rfl)) (pe_ix (ixK K) (pv 1) (pv 5) (fun _ _ => rfl)) (nomark _)) (pw_and1 (pt_cmpR op_ne (pe_ix (ixK K) (pv 1) (pe_ix (ixK K) (pv 7) pe_int (fun _ _ => rfl)) (fun _ _ => rfl)) (pe_ix (ixK K) (pv 1) (pe_ix (ixK K) (pv 7) pe_int (fun _ _ => rfl)) (fun _ _ => rfl)) (nomark _)))))) (pss_one
          (ps_expr (bmK K (pe_bm PySem.F.plainAttrs_list PySem.F.slot_list_append PySem.F.type_list_append mt_append (pv 2) (pa_cons (pe_tup (pa_cons (pe_tup (pa_cons pe_str (pa_cons (pv 4) (pa_cons (pv 5) (pa_cons (pv 6) pa_nil))))) (pa_cons (pv 7) pa_nil))) pa_nil))))) pss_nil))))))))
      (pss_one
      (ps_ret (pv 2)))))), ?_⟩
  refine body_P h fun ds Q hT => ?_
  obtain ⟨s, B, rfl, hw, hB, k⟩ := hT
  have hk4 := hw.k4
  have hk4 : s.k ≤ 4 := hk4
  have hr8 := Nat.le_trans (reach_len s) hw.n8
  refine ws_seq (ws_asgC (wc_lst ?_))
  walk_at "w"
  refine ⟨by simp, fun q => ?_⟩
  walk_at "w"
  refine ⟨s, rfl, hw, _, rfl, ?_⟩
  refine ws_seq (ws_for (wi_tup (we_var (d := .tup (natD s.reach)) rfl ⟨_, rfl, fun i ρ' => ∃ X x4 x5 x6 x7, s.Snd B X ∧ X.length ≤ i * 32 ∧ (∀ u a, u < i → s.reach[u]? = some a → ∀ b, Rc s b → ∀ c, c < s.k → s.ct B X a b c) ∧ ρ' = csR s B q X x4 x5 x6 x7, ⟨[], none, none, none, none, .nil, Nat.zero_le _, (fun u a h => absurd h (Nat.not_lt_zero u)), rfl⟩, ?_, ?_⟩)))
  · rintro i d ρ' hd ⟨X, x4, x5, x6, x7, hX, hl, hi, rfl⟩
    obtain ⟨a, ha, rfl⟩ := natD_at hd
    have har := hw.mem_reach.mp (List.mem_of_getElem? ha)
    have hi8 := (List.getElem?_eq_some_iff.mp ha).1
    refine wg_name (ws_for (wi_tup (we_var (d := .tup (natD s.reach)) rfl ⟨_, rfl, fun j ρ' => ∃ X x5 x6 x7, s.Snd B X ∧ X.length ≤ i * 32 + j * 4 ∧ (∀ u a, u < i → s.reach[u]? = some a → ∀ b, Rc s b → ∀ c, c < s.k → s.ct B X a b c) ∧ (∀ u b, u < j → s.reach[u]? = some b → ∀ c, c < s.k → s.ct B X a b c) ∧ ρ' = csR s B q X (some (.imm (.int (a : Int)))) x5 x6 x7, ⟨X, _, _, _, hX, hl, hi, (fun u a h => absurd h (Nat.not_lt_zero u)), rfl⟩, ?_, ?_⟩)))
    · clear hX hl hi
      rintro j d ρ' hd ⟨X, x5, x6, x7, hX, hl, hi, hj, rfl⟩
      obtain ⟨b, hb, rfl⟩ := natD_at hd
      have hbr := hw.mem_reach.mp (List.mem_of_getElem? hb)
      have hj8 := (List.getElem?_eq_some_iff.mp hb).1
      refine wg_name (ws_for (wi_range ?_))
      walk_at "w"
      refine rd_ixT (d := .tup (tabsD s.cmds)) rfl ?_
      walk_at "w"
      refine rc_len (.inl rfl) ?_
      walk_at "w"
      refine ⟨s.k, by rw [tabsD_length]; rfl, by omega, fun c ρ' => ∃ X x6 x7, s.Snd B X ∧ X.length ≤ i * 32 + j * 4 + c ∧ (∀ u a, u < i → s.reach[u]? = some a → ∀ b, Rc s b → ∀ c, c < s.k → s.ct B X a b c) ∧ (∀ u b, u < j → s.reach[u]? = some b → ∀ c, c < s.k → s.ct B X a b c) ∧ (∀ u, u < c → s.ct B X a b u) ∧ ρ' = csR s B q X (some (.imm (.int (a : Int)))) (some (.imm (.int (b : Int)))) x6 x7, ⟨X, _, _, hX, hl, hi, hj, (fun u h => absurd h (Nat.not_lt_zero u)), rfl⟩, ?_, ?_⟩
      · clear hX hl hi hj
        rintro c d ρ' hd ⟨X, x6, x7, hX, hl, hi, hj, hc, rfl⟩
        have hck : c < s.k := by
          have := (List.getElem?_eq_some_iff.mp hd).1
          rw [rgD_length] at this; exact this
        rw [rgD_get hck] at hd
        cases hd
        have hna := hw.nx (har.lt hw) hck
        have hnb := hw.nx (hbr.lt hw) hck
        have hi32 : i * 32 ≤ 8 * 32 := Nat.mul_le_mul_right 32 (by omega)
        have fin : ∀ ρ0, s.ct B X a b c → ρ0 = csR s B q X (some (.imm (.int (a : Int)))) (some (.imm (.int (b : Int)))) (some (.imm (.int (c : Int)))) (some (.imm (pD (ip (s.nx a c, s.nx b c))))) → ∃ X x6 x7, s.Snd B X ∧ X.length ≤ i * 32 + j * 4 + (c + 1) ∧ (∀ u a, u < i → s.reach[u]? = some a → ∀ b, Rc s b → ∀ c, c < s.k → s.ct B X a b c) ∧ (∀ u b, u < j → s.reach[u]? = some b → ∀ c, c < s.k → s.ct B X a b c) ∧ (∀ u, u < c + 1 → s.ct B X a b u) ∧ ρ0 = csR s B q X (some (.imm (.int (a : Int)))) (some (.imm (.int (b : Int)))) x6 x7 := fun ρ0 h e => ⟨X, _, _, hX, by omega, hi, hj, fun u hu => by
          by_cases z : u = c
          · subst z; exact h
          · exact hc u (by omega), e⟩
        refine wg_name ?_
        walk_at "w"
        refine ⟨s, a, c, rfl, hw, har.lt hw, hck, _, rfl, ?_⟩
        walk_at "w"
        refine ⟨s, b, c, rfl, hw, hbr.lt hw, hck, _, rfl, ?_⟩
        walk_at "w"
        refine ⟨by simp, ?_⟩
        walk_at "w"
        refine rd_B0 ⟨_, rfl, fun h1 => ?yh1, fun h1 => ?nh1⟩
        case nh1 =>
          have h1 := of_decide_eq_false h1
          refine ⟨(fun z => by cases z), fun _ => ws_next (fin _ (fun _ h2 => absurd h2 (by omega)) rfl)⟩
        have h1 := of_decide_eq_true h1
        walk_at "w"
        refine rd_ixL (bl_at (by rw [hB]; exact har.lt hw)) ?_
        walk_at "w"
        refine rd_ixL (bl_at (by rw [hB]; exact hbr.lt hw)) ?_
        refine rd_eqI ⟨_, rfl, fun h2 => ?yh2, fun h2 => ?nh2⟩
        case nh2 =>
          have h2 := of_decide_eq_false h2
          refine ⟨(fun z => by cases z), fun _ => ws_next (fin _ (fun _ _ h3 => absurd (by omega) h2) rfl)⟩
        have h2 := of_decide_eq_true h2
        walk_at "w"
        refine rd_ixT (d := .int (s.nx a c : Int)) rfl ?_
        walk_at "w"
        refine rd_ixL (bl_at (by rw [hB]; exact hna)) ?_
        walk_at "w"
        refine rd_ixT (d := .int (s.nx b c : Int)) rfl ?_
        walk_at "w"
        refine rd_ixL (bl_at (by rw [hB]; exact hnb)) ?_
        refine rd_neI ⟨_, rfl, fun h3 => ?yh3, fun h3 => ?nh3⟩
        case nh3 =>
          have h3 : decide ((bl B (s.nx a c) : Int) = bl B (s.nx b c)) = true := by
            cases z : decide ((bl B (s.nx a c) : Int) = bl B (s.nx b c)) with
            | true => rfl
            | false => rw [z] at h3; cases h3
          have h3 := of_decide_eq_true h3
          exact ws_next (fin _ (fun _ _ _ => by omega) rfl)
        have h3 : bl B (s.nx a c) ≠ bl B (s.nx b c) := fun z => by
          rw [z, decide_eq_true rfl] at h3; cases h3
        have hp := Sys.pair_c (B := B) har hbr hck (by omega)
        refine ws_app rfl ?_
        walk_at "w"
        refine ⟨by simp, ?_⟩
        walk_at "w"
        refine ⟨by simp, ?_⟩
        refine ⟨_, rfl, by rw [stD_len]; omega, X ++ [(cItem a b c, (s.nx a c, s.nx b c))], some (.imm (.int (c : Int))), some (.imm (pD (ip (s.nx a c, s.nx b c)))), hX.append (.one hp h3), by rw [List.length_append, List.length_singleton]; omega, (fun u a hu ha b hb c hc z => absurd z (by simp)), (fun u b hu hb c hc z => absurd z (by simp)), (fun u hu z => absurd z (by simp)), by unfold csR; rw [stD_append]; rfl⟩
      · clear hX hl hi hj
        rintro ρ' ⟨X, x6, x7, hX, hl, hi, hj, hc, rfl⟩
        rw [rgD_length] at hl hc
        refine ⟨X, _, _, _, hX, by omega, hi, fun u y hu hy c hck => ?_, rfl⟩
        by_cases e : u = j
        · subst e
          rw [hb] at hy; cases hy
          exact hc c hck
        · exact hj u y (by omega) hy c hck
    · clear hX hl hi
      rintro ρ' ⟨X, x5, x6, x7, hX, hl, hi, hj, rfl⟩
      rw [natD_length] at hl hj
      refine ⟨X, _, _, _, _, hX, by omega, fun u y hu hy b hb c hck => ?_, rfl⟩
      by_cases e : u = i
      · subst e
        rw [ha] at hy; cases hy
        obtain ⟨v, hv⟩ := List.mem_iff_getElem?.mp (hw.mem_reach.mpr hb)
        exact hj v b (List.getElem?_eq_some_iff.mp hv).1 hv c hck
      · exact hi u y (by omega) hy b hb c hck
  · rintro ρ' ⟨X, x4, x5, x6, x7, hX, hl, hi, rfl⟩
    rw [natD_length] at hl hi
    refine ws_freeze (i := 2) rfl ?_
    walk_at "w"
    refine k X hX (fun h a b c ha hb hc e => ?_) (by omega)
    have main : ∀ a b, Rc s a → Rc s b → a < b → bl B a = bl B b → bl B (s.nx a c) = bl B (s.nx b c) := fun a b ha hb hlt e => by
      obtain ⟨v, hv⟩ := List.mem_iff_getElem?.mp (hw.mem_reach.mpr ha)
      exact hi v a (List.getElem?_eq_some_iff.mp hv).1 hv b hb c hc h hlt e
    by_cases h1 : a < b
    · exact main a b ha hb h1 e
    · by_cases h2 : a = b
      · rw [h2]
      · exact (main b a hb ha (by omega) e.symm).symm
end
end K47

set_option Elab.async false
set_option linter.all false
set_option maxRecDepth 100000
set_option maxHeartbeats 4000000
namespace K47
open PySem L2
local macro_rules | `(tactic| walk_at "w1") => `(tactic| first
  | with_reducible refine ws_seq ?_
  | with_reducible refine ws_ret ?_
  | with_reducible refine ws_asg ?_
  | with_reducible refine ws_drop ?_
  | with_reducible refine ws_if ?_
  | with_reducible refine ws_next ?_
  | ((with_reducible refine' we_var ?hv ?_); (case hv => exact rfl))
  | with_reducible refine we_int ?_
  | with_reducible refine we_bl ?_
  | with_reducible refine we_non ?_
  | with_reducible refine we_str ?_
  | with_reducible refine we_callP ?_
  | with_reducible refine we_isi (by decide) ?_
  | with_reducible refine we_cb ?_
  | with_reducible refine we_op ?_
  | with_reducible refine we_un ?_
  | with_reducible refine we_chain ?_
  | with_reducible refine we_andV ?_
  | with_reducible refine we_orV ?_
  | with_reducible refine we_notV ?_
  | with_reducible refine we_if ?_
  | with_reducible refine we_tup ?_
  | with_reducible refine we_lst ?_
  | with_reducible refine wa_nil ?_
  | with_reducible refine wa_cons ?_
  | with_reducible refine wt_test ?_
  | with_reducible refine wt_B ?_
  | with_reducible refine wt_not ?_
  | with_reducible refine wt_and ?_
  | with_reducible refine wt_or ?_
  | with_reducible refine wt_yes ?_
  | with_reducible refine wt_truK ?_)
local macro_rules | `(tactic| walk_at "w") => `(tactic| repeat walk_at "w1")
theorem set_same {ρ : Rho} {i : Nat} {x : Option Cell} (h : ρ[i]? = some x) : ρ.set i x = ρ := by
  apply List.ext_getElem?
  intro j
  by_cases e : i = j
  · subst e
    rw [List.getElem?_set_self (List.getElem?_eq_some_iff.mp h).1, h]
  · rw [List.getElem?_set_ne e]
theorem we_setd1 {ρ : Rho} {Q : D → Rho → Prop} {ty tx : TE} {i : Nat} {p0 : Addr} {kv0 : List (Int × D)} (h0 : ρ[i]? = some (some (.dk p0 kv0))) (h : WE ty ρ fun dk ρ1 => WE tx ρ1 fun dx ρ2 => ∃ (p : Addr) (k : Int) (kvs : List (Int × D)), dk = .int k ∧ ρ2[i]? = some (some (.dk p kvs)) ∧ kvs.length < 100000 ∧ ∀ d kvs', ((lk kvs k = some d ∧ kvs' = kvs) ∨ (lk kvs k = none ∧ kvs' = kvs ++ [(k, dx)] ∧ d = dx)) → Q d (ρ2.set i (some (.dk p kvs')))) : WE (tDSetd (tVar i) ty tx) ρ Q :=
  we_setd h0 (h.imp fun dk ρ1 h1 => h1.imp fun dx ρ2 ⟨p, k, kvs, a, b, c, q⟩ => ⟨p, k, kvs, a, b, c, fun d hd => by
    have := q d kvs (.inl ⟨hd, rfl⟩)
    rw [set_same b] at this
    exact this, fun hn => q dx _ (.inr ⟨hn, rfl, rfl⟩)⟩)
/-- first pairs by block -/
def tk (B : List Nat) (FL : List (Nat × Nat)) : List (Int × D) := FL.map fun f => ((bl B f.1 : Int), pD (ip f))
theorem tk_len (B : List Nat) (FL : List (Nat × Nat)) : (tk B FL).length = FL.length := List.length_map _
theorem tk_append (B : List Nat) (X Y : List (Nat × Nat)) : tk B (X ++ Y) = tk B X ++ tk B Y := List.map_append
theorem tk_some {B : List Nat} {FL : List (Nat × Nat)} {k : Int} {d : D} (h : lk (tk B FL) k = some d) : ∃ f ∈ FL, k = (bl B f.1 : Int) ∧ d = pD (ip f) := by
  obtain ⟨f, h1, e⟩ := List.mem_map.mp (lk_mem h)
  cases e
  exact ⟨f, h1, rfl, rfl⟩
theorem pD_inj {p q : Nat × Nat} (h : pD (ip p) = pD (ip q)) : p = q := by
  obtain ⟨a, b⟩ := p
  obtain ⟨c, d⟩ := q
  have h : D.tup [.int (a : Int), .int (b : Int)] = D.tup [.int (c : Int), .int (d : Int)] := h
  injection h with h
  injection h with h1 h2
  injection h2 with h2 _
  injection h1 with h1
  injection h2 with h2
  rw [show a = c by omega, show b = d by omega]
/-- what is told of an action -/
def Sys.at_ (s : Sys) (B : List Nat) (X : SL) (a c : Nat) : Prop := X = [] → ∀ q r, s.Sq q → s.Sq r → bl B (s.led (s.nx a c) q) = bl B (s.led (s.nx a c) r) → bl B (s.led a q) = bl B (s.led a r)
def Told (B : List Nat) (FL : List (Nat × Nat)) (X : SL) (p : Nat × Nat) : Prop := ∃ f, lk (tk B FL) (bl B p.1 : Int) = some (pD (ip f)) ∧ (X = [] → bl B f.2 = bl B p.2)
def asR (s : Sys) (B : List Nat) (q : Addr) (X : SL) (x3 x4 x5 x6 x7 x8 x9 : Option Cell) : Rho := [some (.imm (sysD s)), some (.imm (.lst (natD B))), some (.ol q (stD X)), x3, x4, x5, x6, x7, x8, x9]
theorem kvPL_pk (L : PL) : (kvPL L).map (fun e => pD e.1) = pairsD (PK L) := by
  unfold kvPL pairsD PK
  rw [List.map_map, List.map_map]
  rfl
theorem ws_forget {ρ : Rho} {N : Rho → Prop} {R : Cell → Rho → Prop} {ts : TS} (i : Nat) (h : WS ts (ρ.set i none) N R) : WS ts ρ N R := fun σ F H E Dc q1 q2 => by
  have T' : Tr ρ F H (ρ.set i none) F H := ⟨Step.refl, fun a ha => by
    rcases ha.set with z | ⟨c, e, z⟩
    · exact .inl z
    · cases e⟩
  refine h σ F H (E.forget i) Dc (fun ρ2 σ2 F2 H2 h2 E2 T2 => q1 ρ2 σ2 F2 H2 h2 E2 (T'.trans T2)) fun c ρ2 σ2 v F2 H2 h2 E2 T2 hc ho => q2 c ρ2 σ2 v F2 H2 h2 E2 (T'.trans T2) hc fun p hp => ⟨(ho p hp).1, ?_⟩
  rcases (ho p hp).2 with z | z
  · exact T'.sub p z
  · exact T'.none_back z
/-- a slot that holds data or nothing -/
def Im (x : Option Cell) : Prop := ∀ c, x = some c → ∃ d, c = .imm d
theorem Im.none : Im none := fun c h => by cases h
theorem Im.some (d : D) : Im (some (.imm d)) := fun c h => by cases h; exact ⟨d, rfl⟩
theorem Im.dl {x : Option Cell} (h : Im x) {c : Cell} (e : x = Option.some c) (p : Addr) (k : List ((Int × Int) × D)) : c ≠ .dl p k := fun z => by
  obtain ⟨d, hd⟩ := h c e
  rw [z] at hd; cases hd
theorem as_nd {s : Sys} {B : List Nat} {q t p : Addr} {X : SL} {a c : D} {kv : List (Int × D)} {kp : List ((Int × Int) × D)} {x7 x8 x9 : Option Cell} (h7 : Im x7) (h8 : Im x8) (h9 : Im x9) : ∀ (j : Nat) (cc : Cell), (asR s B q X (some (.imm a)) (some (.imm c)) (some (.dk t kv)) (some (.dl p kp)) x7 x8 x9)[j]? = some (some cc) → j ≠ 6 → ∀ k2, cc ≠ .dl p k2 := fun j cc h hj k2 z => by
  subst z
  match j with
  | 0 => cases h
  | 1 => cases h
  | 2 => cases h
  | 3 => cases h
  | 4 => cases h
  | 5 => cases h
  | 6 => exact hj rfl
  | 7 => exact h7.dl (Option.some.inj h) _ _ rfl
  | 8 => exact h8.dl (Option.some.inj h) _ _ rfl
  | 9 => exact h9.dl (Option.some.inj h) _ _ rfl
  | j + 10 => cases h
theorem Told.grow {B : List Nat} {FL : List (Nat × Nat)} {X : SL} {p : Nat × Nat} (h : Told B FL X p) (M : List (Nat × Nat)) : Told B (FL ++ M) X p := by
  obtain ⟨f, h1, h2⟩ := h
  exact ⟨f, by rw [tk_append]; exact lk_append_some h1, h2⟩
theorem Told.more {B : List Nat} {FL : List (Nat × Nat)} {X : SL} {p : Nat × Nat} (h : Told B FL X p) {Y : SL} (hY : Y ≠ []) : Told B FL Y p := by
  obtain ⟨f, h1, h2⟩ := h
  exact ⟨f, h1, fun z => absurd z hY⟩
theorem Sys.at_of {s : Sys} {B : List Nat} {X : SL} {a c : Nat} {L : PL} (hL : s.PFull (s.nx a c) a L) {FL : List (Nat × Nat)} (h : ∀ p ∈ PK L, Told B FL X p) : s.at_ B X a c := fun hX q r hq hr e => by
  have m : ((s.nx a c), a) ∈ PK L := List.mem_map.mpr ⟨_, hL.hd, rfl⟩
  obtain ⟨f, f1, f2⟩ := h _ (hL.led m hq)
  obtain ⟨g, g1, g2⟩ := h _ (hL.led m hr)
  have e : bl B (s.led (s.nx a c) q) = bl B (s.led (s.nx a c) r) := e
  have f1 : lk (tk B FL) (bl B (s.led (s.nx a c) q) : Int) = _ := f1
  have g1 : lk (tk B FL) (bl B (s.led (s.nx a c) r) : Int) = _ := g1
  rw [e, g1] at f1
  have := pD_inj (Option.some.inj f1)
  subst this
  exact (f2 hX).symm.trans (g2 hX)

section
variable {P : Program} {w : World} {K : PySem.W.Frag} {mg : Str → Option Value} {base : Heap}
theorem sc_action_steps : FnScope ["system", "blocks", "found", "state", "command", "told", "pairs", "pair", "first", "item"] ["system", "blocks"] (defScope s_action_steps) := ⟨rfl, rfl, rfl, by decide +kernel, rfl, by decide +kernel, by decide +kernel⟩
def T_action_steps : List D → (Cell → Prop) → Prop := fun ds Q => ∃ (s : Sys) (B : List Nat), ds = [sysD s, .lst (natD B)] ∧ s.Wf ∧ B.length = s.n ∧ ∀ X, s.Snd B X → (X = [] → s.AC B) → X.length ≤ 3000 → Q (.imm (.lst (stD X)))
theorem len_action_steps : ∀ ds Q, T_action_steps ds Q → ds.length = 2 := fun ds Q ⟨s, B, h, _⟩ => by rw [h]; rfl
theorem ok_action_steps {f : Addr} {fd : FuncData} (T : Txt K mg) (F : FnP K "action_steps" s_action_steps f fd) {f_actions_in : Addr} {fd_actions_in : FuncData} (c_actions_in : Cal P w K mg base "actions_in" 4 ["system"] (spP T_actions_in) f_actions_in fd_actions_in) {f_pairs_from : Addr} {fd_pairs_from : FuncData} (c_pairs_from : Cal P w K mg base "pairs_from" 2 ["system", "one", "other"] (spP T_pairs_from) f_pairs_from fd_pairs_from) {f_step : Addr} {fd_step : FuncData} (c_step : Cal P w K mg base "step" 1 ["system", "state", "command"] (spP T_step) f_step fd_step) : FnOk P w K mg base CX0 5 f fd ["system", "blocks"] (spP T_action_steps) := by
  refine F.ok sc_action_steps (fun vs H Q E h => len_P len_action_steps h) (fun cdv A outer s H vs Q E hr h => ?_)
  have hu := hu_of hr
  refine ⟨_, PSs.nox (pss_cons
      (ps_set (i := 2) sc_action_steps.nd rfl (by first | exact Or.inl rfl | exact Or.inr rfl) (pe_lst pa_nil))
      (pss_cons
      (ps_for PassesOwn.never rfl (piLK K (pe_call c_actions_in.G (hr.mono (by decide)) rfl c_actions_in.m c_actions_in.kp c_actions_in.b .nil pass0 (pa_cons (pv 0) pa_nil))) (tupTK K (n := 2) rfl (pgs_cons (pg_name (i := 3) sc_action_steps.nd rfl (by first | exact Or.inl rfl | exact Or.inr rfl)) (pgs_cons (pg_name (i := 4) sc_action_steps.nd rfl (by first | exact Or.inl rfl | exact Or.inr rfl)) pgs_nil))) (pss_cons
       (ps_set (i := 5) sc_action_steps.nd rfl (by first | exact Or.inl rfl | exact Or.inr rfl) pe_dnewK)
       (pss_cons
       (ps_set (i := 6) sc_action_steps.nd rfl (by first | exact Or.inl rfl | exact Or.inr rfl) (pe_call c_pairs_from.G (hr.mono (by decide)) rfl c_pairs_from.m c_pairs_from.kp c_pairs_from.b .nil pass0 (pa_cons (pv 0) (pa_cons (pe_call c_step.G (hr.mono (by decide)) rfl c_step.m c_step.kp c_step.b .nil pass0 (pa_cons (pv 0) (pa_cons (pv 3) (pa_cons (pv 4) pa_nil)))) (pa_cons (pv 3) pa_nil)))))
       (pss_one
       (ps_lock (ps_for PassesOwn.never rfl (pi_keys (pv 6)) (pg_name (i := 7) sc_action_steps.nd rfl (by first | exact Or.inl rfl | exact Or.inr rfl)) (pss_cons
        (ps_set (i := 8) sc_action_steps.nd rfl (by first | exact Or.inl rfl | exact Or.inr rfl) (pe_dsetd (pv 5) (pe_ix (ixK K) (pv 1) (pe_ix (ixK K) (pv 7) pe_int (fun _ _ => rfl)) (fun _ _ => rfl)) (pv 7) ⟨rfl, rfl, rfl, rfl⟩))
        (pss_one
        (ps_if (pt_cmpR op_ne (pe_ix (ixK K) (pv 1) (pe_ix (ixK K) (pv 8) pe_int (fun _ _ => rfl)) (fun _ _ => rfl)) (pe_ix (ixK K) (pv 1) (pe_ix (ixK K) (pv 7) pe_int (fun _ _ => rfl)) (fun _ _ => rfl)) (nomark _)) (pss_cons
         (ps_set (i := 9) sc_action_steps.nd rfl (by first | exact Or.inl rfl | exact Or.inr rfl) (pe_tup (pa_cons pe_str (pa_cons (pv 3) (pa_cons (pv 4) (pa_cons (pe_callTy (tupleK K) (by rfl) T.b_tuple bt_tuple (pa_cons (pe_dget hu (pv 6) (pv 8) (fun _ _ => rfl)) pa_nil)) (pa_cons (pe_callTy (tupleK K) (by rfl) T.b_tuple bt_tuple (pa_cons (pe_dget hu (pv 6) (pv 7) (fun _ _ => rfl)) pa_nil)) pa_nil)))))))
         (pss_one
         (ps_expr (bmK K (pe_bm PySem.F.plainAttrs_list PySem.F.slot_list_append PySem.F.type_list_append mt_append (pv 2) (pa_cons (pe_tup (pa_cons (pv 9) (pa_cons (pe_tup (pa_cons (pe_ix (ixK K) (pv 8) pe_int (fun _ _ => rfl)) (pa_cons (pe_ix (ixK K) (pv 7) pe_int (fun _ _ => rfl)) pa_nil))) pa_nil))) pa_nil)))))) pss_nil)))))))))
      (pss_one
      (ps_ret (pv 2))))), ?_⟩
  refine body_P h fun ds Q hT => ?_
  obtain ⟨s, B, rfl, hw, hB, k⟩ := hT
  refine ws_seq (ws_asgC (wc_lst ?_))
  walk_at "w"
  refine ⟨by simp, fun q => ?_⟩
  refine ws_seq (ws_for (wi_list ?_))
  walk_at "w"
  refine ⟨s, rfl, hw, fun A hA hAl => ⟨_, rfl, _, rfl, fun i ρ' => ∃ X x3 x4 x5 x6 x7 x8 x9, s.Snd B X ∧ X.length ≤ i * 64 ∧ (∀ u p, u < i → A[u]? = some p → s.at_ B X p.1 p.2) ∧ ρ' = asR s B q X x3 x4 x5 x6 x7 x8 x9, ⟨[], none, none, none, none, none, none, none, .nil, Nat.zero_le _, (fun u a h => absurd h (Nat.not_lt_zero u)), rfl⟩, ?_, ?_⟩⟩
  · rintro i d ρ' hd ⟨X, x3, x4, x5, x6, x7, x8, x9, hX, hl, hi, rfl⟩
    obtain ⟨⟨a, c⟩, hac, rfl⟩ := pairsD_at hd
    obtain ⟨har, hck⟩ := (hA (a, c)).mp (List.mem_of_getElem? hac)
    have hi32 := Nat.lt_of_lt_of_le (List.getElem?_eq_some_iff.mp hac).1 hAl
    have hna := hw.nx (har.lt hw) hck
    refine wg_tup rfl (wgs_cons (wg_name (wgs_cons (wg_name (wgs_nil ?_)))))
    refine ws_seq (ws_asgC (wc_dnewK fun t => ?_))
    refine ws_seq (ws_asgC (wc_callP ?_))
    walk_at "w"
    refine ⟨s, a, c, rfl, hw, har.lt hw, hck, _, rfl, ?_⟩
    walk_at "w"
    refine ⟨s, s.nx a c, a, rfl, hw, hna, har.lt hw, fun L p hL => ?_⟩
    have h64 := Nat.le_trans (hL.toPI.le hw hna (har.lt hw)) hw.nn
    refine ws_forget 7 (ws_forget 8 (ws_forget 9 (ws_lock (i := 6) rfl (ws_for (wi_keys (i := 6) rfl ?_)))))
    rw [kvPL_pk]
    refine ⟨fun j ρ' => ∃ X FL x7 x8 x9, s.Snd B X ∧ X.length ≤ i * 64 + j ∧ (∀ u p, u < i → A[u]? = some p → s.at_ B X p.1 p.2) ∧ FL.length ≤ j ∧ (∀ f ∈ FL, f ∈ PK L) ∧ (∀ u p, u < j → (PK L)[u]? = some p → Told B FL X p) ∧ Im x7 ∧ Im x8 ∧ Im x9 ∧ ρ' = asR s B q X (some (.imm (.int (a : Int)))) (some (.imm (.int (c : Int)))) (some (.dk t (tk B FL))) (some (.dl p (kvPL L))) x7 x8 x9, ⟨X, [], none, none, none, hX, by omega, hi, Nat.le_refl _, (fun f h => by cases h), (fun u a h => absurd h (Nat.not_lt_zero u)), .none, .none, .none, rfl⟩, ?_, ?_⟩
    · clear hX hl hi
      rintro j d ρ' hd ⟨X, FL, x7, x8, x9, hX, hl, hi, hF, hFL, hj, h7, h8, h9, rfl⟩
      obtain ⟨z, hz, rfl⟩ := pairsD_at hd
      have hjl := (List.getElem?_eq_some_iff.mp hz).1
      have hPl : (PK L).length = L.length := List.length_map _
      have hzm := List.mem_of_getElem? hz
      obtain ⟨hz1, hz2⟩ := hL.toPI.lt hw hna (har.lt hw) hzm
      obtain ⟨sz, hsz⟩ := PK_mem hzm
      refine wg_name ?_
      refine ws_seq (ws_asg (we_setd1 (i := 5) rfl ?_))
      walk_at "w"
      refine rd_ixT (d := .int (z.1 : Int)) rfl ?_
      refine rd_ixL (bl_at (by rw [hB]; exact hz1)) ?_
      walk_at "w"
      refine ⟨t, _, tk B FL, rfl, rfl, by rw [tk_len]; omega, fun d kvs' hk => ?_⟩
      obtain ⟨f, FL', rfl, rfl, hfl, hF', hFL', hT⟩ : ∃ f FL', d = pD (ip f) ∧ kvs' = tk B FL' ∧ bl B f.1 = bl B z.1 ∧ FL'.length ≤ j + 1 ∧ (∀ f ∈ FL', f ∈ PK L) ∧ f ∈ PK L ∧ lk (tk B FL') (bl B z.1 : Int) = some (pD (ip f)) ∧ (∀ X p, Told B FL X p → Told B FL' X p) := by
        rcases hk with ⟨h1, h2⟩ | ⟨h1, h2, h3⟩
        · obtain ⟨f, f1, f2, f3⟩ := tk_some h1
          exact ⟨f, FL, f3, h2, by omega, by omega, hFL, hFL f f1, by rw [h1, f3], fun _ _ h => h⟩
        · refine ⟨z, FL ++ [z], h3, by rw [h2, tk_append]; rfl, rfl, by rw [List.length_append, List.length_singleton]; omega, fun f hf => ?_, hzm, ?_, fun _ _ h => h.grow _⟩
          · rcases List.mem_append.mp hf with y | y
            · exact hFL f y
            · rw [List.mem_singleton.mp y]; exact hzm
          · rw [tk_append, lk_append_none h1]
            exact lk_pos rfl
      obtain ⟨hfm, hlk, hgrow⟩ := hT
      obtain ⟨hf1, hf2⟩ := hL.toPI.lt hw hna (har.lt hw) hfm
      obtain ⟨sf, hsf⟩ := PK_mem hfm
      obtain ⟨sq1, sq2⟩ := hL.sq _ hsf
      obtain ⟨sq3, sq4⟩ := hL.sq _ hsz
      have sq2 : f = (s.led (s.nx a c) sf, s.led a sf) := sq2
      have sq4 : z = (s.led (s.nx a c) sz, s.led a sz) := sq4
      have ln1 : sf.length < L.length := hL.len _ hsf
      have ln2 : sz.length < L.length := hL.len _ hsz
      have hi64 : i * 64 ≤ 31 * 64 := Nat.mul_le_mul_right 64 (by omega)
      walk_at "w"
      refine rd_ixT (d := .int (f.2 : Int)) rfl ?_
      refine rd_ixL (bl_at (by rw [hB]; exact hf2)) ?_
      walk_at "w"
      refine rd_ixT (d := .int (z.2 : Int)) rfl ?_
      refine rd_ixL (bl_at (by rw [hB]; exact hz2)) ?_
      refine rd_neI ⟨_, rfl, fun hb => ?_, fun hb => ?_⟩
      · have hne : bl B f.2 ≠ bl B z.2 := fun e => by
          rw [e, decide_eq_true rfl] at hb; cases hb
        have hp := Sys.pair_a (s := s) (B := B) (q := sf) (r := sz) har hck sq1 sq3 (by omega) (by omega) (by
          have e1 : f.1 = s.led (s.nx a c) sf := by rw [sq2]
          have e2 : z.1 = s.led (s.nx a c) sz := by rw [sq4]
          rw [← e1, ← e2]; exact hfl)
        have ef : s.led a sf = f.2 := by rw [sq2]
        have ez : s.led a sz = z.2 := by rw [sq4]
        rw [ef, ez] at hp
        walk_at "w"
        refine we_dgetL (i := 6) rfl ?_
        walk_at "w"
        refine ⟨p, ip f, _, _, rfl, rfl, kvPL_some hL.nd hsf, ?_⟩
        walk_at "w"
        refine rc_tuple (.inl rfl) ?_
        walk_at "w"
        refine we_dgetL (i := 6) rfl ?_
        walk_at "w"
        refine ⟨p, ip z, _, _, rfl, rfl, kvPL_some hL.nd hsz, ?_⟩
        walk_at "w"
        refine rc_tuple (.inl rfl) ?_
        walk_at "w"
        refine ⟨by simp, ?_⟩
        refine ws_app rfl ?_
        walk_at "w"
        refine rd_ixT (d := .int (f.2 : Int)) rfl ?_
        walk_at "w"
        refine rd_ixT (d := .int (z.2 : Int)) rfl ?_
        walk_at "w"
        refine ⟨by simp, ?_⟩
        walk_at "w"
        refine ⟨by simp, ?_⟩
        have hne' : X ++ [(aItem a c sf sz, (f.2, z.2))] ≠ [] := by simp
        refine ⟨_, rfl, by rw [stD_len]; omega, X ++ [(aItem a c sf sz, (f.2, z.2))], FL', some (.imm (pD (ip z))), some (.imm (pD (ip f))), some (.imm (aItem a c sf sz)), hX.append (.one hp hne), by rw [List.length_append, List.length_singleton]; omega, (fun u p hu ha z => absurd z hne'), hF', hFL', fun u y hu hy => ?_, .some _, .some _, .some _, by unfold asR; rw [stD_append]; rfl⟩
        by_cases e : u = j
        · subst e
          rw [hz] at hy; cases hy
          exact ⟨f, hlk, fun z => absurd z hne'⟩
        · exact (hgrow _ _ (hj u y (by omega) hy)).more hne'
      · have he : bl B f.2 = bl B z.2 := by
          refine Classical.byContradiction fun e => ?_
          rw [decide_eq_false (fun q => e (by omega))] at hb; cases hb
        refine ws_next ⟨X, FL', _, _, _, hX, by omega, hi, hF', hFL', fun u y hu hy => ?_, .some _, .some _, h9, rfl⟩
        by_cases e : u = j
        · subst e
          rw [hz] at hy; cases hy
          exact ⟨f, hlk, fun _ => he⟩
        · exact hgrow _ _ (hj u y (by omega) hy)
    · clear hX hl hi
      rintro ρ' ⟨X, FL, x7, x8, x9, hX, hl, hi, hF, hFL, hj, h7, h8, h9, rfl⟩
      rw [pairsD_len] at hl hj
      have hPl : (PK L).length = L.length := List.length_map _
      refine ⟨rfl, as_nd h7 h8 h9, X, _, _, _, _, _, _, _, hX, by rw [Nat.succ_mul]; omega, fun u y hu hy => ?_, rfl⟩
      by_cases e : u = i
      · subst e
        rw [hac] at hy; cases hy
        refine Sys.at_of hL (FL := FL) fun p hp => ?_
        obtain ⟨v, hv⟩ := List.mem_iff_getElem?.mp hp
        exact hj v p (List.getElem?_eq_some_iff.mp hv).1 hv
      · exact hi u y (by omega) hy
  · rintro ρ' ⟨X, x3, x4, x5, x6, x7, x8, x9, hX, hl, hi, rfl⟩
    rw [pairsD_len] at hl hi
    refine ws_freeze (i := 2) rfl ?_
    walk_at "w"
    refine k X hX (fun h a c q r ha hc hq hr e => ?_) (by omega)
    obtain ⟨v, hv⟩ := List.mem_iff_getElem?.mp ((hA (a, c)).mpr ⟨ha, hc⟩)
    exact hi v (a, c) (List.getElem?_eq_some_iff.mp hv).1 hv h q r hq hr e
end
end K47

set_option Elab.async false
set_option linter.all false
set_option maxRecDepth 100000
set_option maxHeartbeats 4000000
namespace K47
open PySem L2
local macro_rules | `(tactic| walk_at "w1") => `(tactic| first
  | with_reducible refine ws_seq ?_
  | with_reducible refine ws_ret ?_
  | with_reducible refine ws_asg ?_
  | with_reducible refine ws_drop ?_
  | with_reducible refine ws_if ?_
  | with_reducible refine ws_next ?_
  | ((with_reducible refine' we_var ?hv ?_); (case hv => exact rfl))
  | with_reducible refine we_int ?_
  | with_reducible refine we_bl ?_
  | with_reducible refine we_non ?_
  | with_reducible refine we_str ?_
  | with_reducible refine we_callP ?_
  | with_reducible refine we_isi (by decide) ?_
  | with_reducible refine we_cb ?_
  | with_reducible refine we_op ?_
  | with_reducible refine we_un ?_
  | with_reducible refine we_chain ?_
  | with_reducible refine we_andV ?_
  | with_reducible refine we_orV ?_
  | with_reducible refine we_notV ?_
  | with_reducible refine we_if ?_
  | with_reducible refine we_tup ?_
  | with_reducible refine we_lst ?_
  | with_reducible refine wa_nil ?_
  | with_reducible refine wa_cons ?_
  | with_reducible refine wt_test ?_
  | with_reducible refine wt_B ?_
  | with_reducible refine wt_not ?_
  | with_reducible refine wt_and ?_
  | with_reducible refine wt_or ?_
  | with_reducible refine wt_yes ?_
  | with_reducible refine wt_truK ?_)
local macro_rules | `(tactic| walk_at "w") => `(tactic| repeat walk_at "w1")
section
variable {P : Program} {w : World} {K : PySem.W.Frag} {mg : Str → Option Value} {base : Heap}
theorem sc_closed : FnScope ["system", "blocks", "steps", "found", "item", "pair"] ["system"] (defScope s_closed) := ⟨rfl, rfl, rfl, by decide +kernel, rfl, by decide +kernel, by decide +kernel⟩
def T_closed : List D → (Cell → Prop) → Prop := fun ds Q => ∃ (s : Sys), ds = [sysD s] ∧ s.Wf ∧ ∀ B X, s.Cl B X → Q (.imm (.tup [.lst (natD B), .lst (stD X)]))
theorem len_closed : ∀ ds Q, T_closed ds Q → ds.length = 1 := fun ds Q ⟨s, h, _⟩ => by rw [h]; rfl
def clR (s : Sys) (B : List Nat) (q : Addr) (X Y : SL) (x4 x5 : Option Cell) : Rho := [some (.imm (sysD s)), some (.imm (.lst (natD B))), some (.ol q (stD X)), some (.imm (.lst (stD Y))), x4, x5]
theorem ok_closed {f : Addr} {fd : FuncData} (T : Txt K mg) (F : FnP K "closed" s_closed f fd) {f_alone : Addr} {fd_alone : FuncData} (c_alone : Cal P w K mg base "alone" 1 ["system"] (spP T_alone) f_alone fd_alone) {f_action_steps : Addr} {fd_action_steps : FuncData} (c_action_steps : Cal P w K mg base "action_steps" 5 ["system", "blocks"] (spP T_action_steps) f_action_steps fd_action_steps) {f_join : Addr} {fd_join : FuncData} (c_join : Cal P w K mg base "join" 1 ["blocks", "one", "other"] (spP T_join) f_join fd_join) {f_command_steps : Addr} {fd_command_steps : FuncData} (c_command_steps : Cal P w K mg base "command_steps" 4 ["system", "blocks"] (spP T_command_steps) f_command_steps fd_command_steps) : FnOk P w K mg base CX0 6 f fd ["system"] (spP T_closed) := by
  refine F.ok sc_closed (fun vs H Q E h => len_P len_closed h) (fun cdv A outer s H vs Q E hr h => ?_)
  have hu := hu_of hr
  refine ⟨_, PSs.nox (pss_cons
      (ps_set (i := 1) sc_closed.nd rfl (by first | exact Or.inl rfl | exact Or.inr rfl) (pe_call c_alone.G (hr.mono (by decide)) rfl c_alone.m c_alone.kp c_alone.b .nil pass0 (pa_cons (pv 0) pa_nil)))
      (pss_cons
      (ps_set (i := 2) sc_closed.nd rfl (by first | exact Or.inl rfl | exact Or.inr rfl) (pe_lst pa_nil))
      (pss_cons
      (ps_set (i := 3) sc_closed.nd rfl (by first | exact Or.inl rfl | exact Or.inr rfl) (pe_call c_action_steps.G (hr.mono (by decide)) rfl c_action_steps.m c_action_steps.kp c_action_steps.b .nil pass0 (pa_cons (pv 0) (pa_cons (pv 1) pa_nil))))
      (pss_cons
      (ps_while PassesOwn.never (truK K (pv 3) (by intro _; rfl)) (pss_cons
       (ps_asg (pe_ix (ixK K) (pv 3) pe_int (fun _ _ => rfl)) (tupTK K (n := 2) rfl (pgs_cons (pg_name (i := 4) sc_closed.nd rfl (by first | exact Or.inl rfl | exact Or.inr rfl)) (pgs_cons (pg_name (i := 5) sc_closed.nd rfl (by first | exact Or.inl rfl | exact Or.inr rfl)) pgs_nil))))
       (pss_cons
       (ps_expr (bmK K (pe_bm PySem.F.plainAttrs_list PySem.F.slot_list_append PySem.F.type_list_append mt_append (pv 2) (pa_cons (pe_tup (pa_cons (pv 4) (pa_cons (pv 5) pa_nil))) pa_nil))))
       (pss_cons
       (ps_set (i := 1) sc_closed.nd rfl (by first | exact Or.inl rfl | exact Or.inr rfl) (pe_call c_join.G (hr.mono (by decide)) rfl c_join.m c_join.kp c_join.b .nil pass0 (pa_cons (pv 1) (pa_cons (pe_ix (ixK K) (pv 5) pe_int (fun _ _ => rfl)) (pa_cons (pe_ix (ixK K) (pv 5) pe_int (fun _ _ => rfl)) pa_nil)))))
       (pss_one
       (ps_set (i := 3) sc_closed.nd rfl (by first | exact Or.inl rfl | exact Or.inr rfl) (pe_op (plusK K) (pe_call c_command_steps.G (hr.mono (by decide)) rfl c_command_steps.m c_command_steps.kp c_command_steps.b .nil pass0 (pa_cons (pv 0) (pa_cons (pv 1) pa_nil))) (pe_call c_action_steps.G (hr.mono (by decide)) rfl c_action_steps.m c_action_steps.kp c_action_steps.b .nil pass0 (pa_cons (pv 0) (pa_cons (pv 1) pa_nil))))))))))
      (pss_one
      (ps_ret (pe_tup (pa_cons (pv 1) (pa_cons (pv 2) pa_nil))))))))), ?_⟩
  refine body_P h fun ds Q hT => ?_
  obtain ⟨s, rfl, hw, k⟩ := hT
  have hn8 := hw.n8
  walk_at "w"
  refine ⟨s, rfl, hw, _, rfl, ?_⟩
  refine ws_seq (ws_asgC (wc_lst ?_))
  walk_at "w"
  refine ⟨by simp, fun q => ?_⟩
  walk_at "w"
  refine ⟨s, List.range s.n, rfl, hw, List.length_range, fun Y hY hYA hYl => ⟨_, rfl, ?_⟩⟩
  refine ws_seq (ws_while (fun m ρ' => ∃ B X Y x4 x5, s.Cr B X ∧ s.Snd B Y ∧ (Y = [] → s.CC B ∧ s.AC B) ∧ m = cnt s.n B ∧ ρ' = clR s B q X Y x4 x5) _ ⟨List.range s.n, [], Y, none, none, hw.cr0, hY, (fun e => ⟨hw.cc0, hYA e⟩), rfl, rfl⟩ ?_)
  clear hY hYA hYl Y
  rintro m ρ' ⟨B, X, Y, x4, x5, hC, hY, hYA, rfl, rfl⟩
  walk_at "w"
  refine ⟨!(stD Y).isEmpty, rfl, fun hb' => ?_, fun hb' => ?_⟩
  · obtain ⟨⟨d, p⟩, Y', rfl⟩ : ∃ e Y', Y = e :: Y' := by
      cases Y with
      | nil => cases hb'
      | cons e Y' => exact ⟨e, Y', rfl⟩
    obtain ⟨h1, h2⟩ := hY _ (List.mem_cons_self ..)
    have h1 : s.pairOf B d = some p := h1
    have h2 : bl B p.1 ≠ bl B p.2 := h2
    obtain ⟨p1, p2⟩ := hw.pairOf_lt h1
    obtain ⟨n1, n2⟩ := hC.next hw h1 h2
    have hBl := hC.len
    have hXl := hC.few
    refine ws_seq (ws_asgG ?_)
    walk_at "w"
    refine rd_ixL (d := entD (d, p)) (show atI _ ((0 : Nat) : Int) = _ from atI_nat rfl) ?_
    refine wg_tup rfl (wgs_cons (wg_name (wgs_cons (wg_name (wgs_nil ?_)))))
    refine ws_seq (ws_app rfl ?_)
    walk_at "w"
    refine ⟨by simp, ?_⟩
    refine ⟨_, rfl, by rw [stD_len]; omega, ?_⟩
    walk_at "w"
    refine rd_ixT (d := .int (p.1 : Int)) rfl ?_
    walk_at "w"
    refine rd_ixT (d := .int (p.2 : Int)) rfl ?_
    walk_at "w"
    refine ⟨B, p.1, p.2, rfl, by omega, by omega, by omega, _, rfl, ?_⟩
    walk_at "w"
    refine ⟨s, joinB B p.1 p.2, rfl, hw, by rw [joinB_len]; exact hBl, fun Y1 a1 a2 a3 => ⟨_, rfl, ?_⟩⟩
    walk_at "w"
    refine ⟨s, joinB B p.1 p.2, rfl, hw, by rw [joinB_len]; exact hBl, fun Y2 b1 b2 b3 => ⟨_, rfl, ?_⟩⟩
    refine rd_plusL (by rw [stD_len, stD_len]; omega) ?_
    refine ⟨_, n2, joinB B p.1 p.2, X ++ [(d, p)], Y1 ++ Y2, some (.imm d), some (.imm (pD (ip p))), n1, a1.append b1, fun e => ?_, rfl, by unfold clR; rw [stD_append, stD_append]; rfl⟩
    obtain ⟨e1, e2⟩ := List.append_eq_nil_iff.mp e
    exact ⟨a2 e1, b2 e2⟩
  · have hW : Y = [] := by
      cases Y with
      | nil => rfl
      | cons x xs => cases hb'
    subst hW
    refine ws_freeze (i := 2) rfl ?_
    walk_at "w"
    exact ⟨by simp, k B X (hC.cl hw (hYA rfl).1 (hYA rfl).2)⟩
theorem sc_finest_of : FnScope ["system", "blocks", "reachable", "numbers", "state"] ["system"] (defScope s_finest_of) := ⟨rfl, rfl, rfl, by decide +kernel, rfl, by decide +kernel, by decide +kernel⟩
/-- numbers as the blocks tell -/
def Sys.Fin (s : Sys) (ds : List D) : Prop := ds.length = s.n ∧ ∃ (B : List Nat) (X : SL) (g : Nat → Nat), s.Cl B X ∧ (∀ x, Rc s x → ds[x]? = some (.int (g x : Int))) ∧ ∀ x y, Rc s x → Rc s y → (g x = g y ↔ bl B x = bl B y)
def T_finest_of : List D → (Cell → Prop) → Prop := fun ds Q => ∃ (s : Sys), ds = [sysD s] ∧ s.Wf ∧ ∀ es, s.Fin es → Q (.imm (.tup es))
theorem len_finest_of : ∀ ds Q, T_finest_of ds Q → ds.length = 1 := fun ds Q ⟨s, h, _⟩ => by rw [h]; rfl
/-- numbers by their order -/
def nk (N : List Nat) : List (Int × D) := (List.range N.length).map fun i => ((N.getD i 0 : Int), D.int (i : Int))
theorem nk_append (N : List Nat) (v : Nat) : nk (N ++ [v]) = nk N ++ [((v : Int), .int (N.length : Int))] := by
  unfold nk
  rw [List.length_append, List.length_singleton, List.range_succ, List.map_append, List.map_singleton]
  congr 1
  · refine List.map_congr_left fun i hi => ?_
    have hi := List.mem_range.mp hi
    rw [getD_at (by rw [List.length_append, List.length_singleton]; omega), getD_at hi, List.getElem_append_left hi]
  · rw [getD_at (by rw [List.length_append, List.length_singleton]; omega), List.getElem_append_right (Nat.le_refl _)]
    simp
theorem nk_len (N : List Nat) : (nk N).length = N.length := by unfold nk; rw [List.length_map, List.length_range]
theorem nk_keys (N : List Nat) : (nk N).map (·.1) = N.map fun x : Nat => (x : Int) := by
  apply List.ext_getElem?
  intro i
  unfold nk
  rw [List.map_map, List.getElem?_map, List.getElem?_map]
  by_cases h : i < N.length
  · rw [List.getElem?_range h, List.getElem?_eq_getElem h]
    show some (N.getD i 0 : Int) = some ((N[i] : Nat) : Int)
    rw [getD_at h]
  · rw [List.getElem?_eq_none (by rw [List.length_range]; omega), List.getElem?_eq_none (by omega)] <;> rfl
theorem nk_none {N : List Nat} {v : Nat} : lk (nk N) (v : Int) = none ↔ v ∉ N := by
  rw [lk_none, nk_keys]
  exact not_congr mem_cast
theorem nk_some {N : List Nat} (hn : N.Nodup) {v i : Nat} (h : N[i]? = some v) : lk (nk N) (v : Int) = some (.int (i : Int)) := by
  refine lk_of_mem ?_ ?_
  · rw [nk_keys]; exact nodup_map nat_cast_inj hn
  · have hi := (List.getElem?_eq_some_iff.mp h).1
    refine List.mem_map.mpr ⟨i, List.mem_range.mpr hi, ?_⟩
    rw [List.getD_eq_getElem?_getD, h]
    rfl
noncomputable def ix (N : List Nat) (v : Nat) : Nat := if h : v ∈ N then (List.mem_iff_getElem?.mp h).choose else 0
theorem ix_at {N : List Nat} {v : Nat} (h : v ∈ N) : N[ix N v]? = some v := by
  unfold ix
  rw [dif_pos h]
  exact (List.mem_iff_getElem?.mp h).choose_spec
theorem ix_iff {N : List Nat} {u v : Nat} (hu : u ∈ N) (hv : v ∈ N) : ix N u = ix N v ↔ u = v := by
  refine ⟨fun e => ?_, fun e => by rw [e]⟩
  have h1 := ix_at hu
  have h2 := ix_at hv
  rw [e, h2] at h1
  exact (Option.some.inj h1).symm
noncomputable def foR (s : Sys) (B : List Nat) (q : Addr) (N : List Nat) (x4 : Option Cell) : Rho := [some (.imm (sysD s)), some (.imm (.lst (natD B))), some (.imm (.tup (natD s.reach))), some (.dk q (nk N)), x4]
theorem ok_finest_of {f : Addr} {fd : FuncData} (T : Txt K mg) (F : FnP K "finest_of" s_finest_of f fd) {f_closed : Addr} {fd_closed : FuncData} (c_closed : Cal P w K mg base "closed" 6 ["system"] (spP T_closed) f_closed fd_closed) {f_reachable_of : Addr} {fd_reachable_of : FuncData} (c_reachable_of : Cal P w K mg base "reachable_of" 3 ["system"] (spP T_reachable_of) f_reachable_of fd_reachable_of) : FnOk P w K mg base CX0 7 f fd ["system"] (spP T_finest_of) := by
  refine F.ok sc_finest_of (fun vs H Q E h => len_P len_finest_of h) (fun cdv A outer s H vs Q E hr h => ?_)
  have hu := hu_of hr
  refine ⟨_, PSs.nox (pss_cons
      (ps_set (i := 1) sc_finest_of.nd rfl (by first | exact Or.inl rfl | exact Or.inr rfl) (pe_ix (ixK K) (pe_call c_closed.G (hr.mono (by decide)) rfl c_closed.m c_closed.kp c_closed.b .nil pass0 (pa_cons (pv 0) pa_nil)) pe_int (fun _ _ => rfl)))
      (pss_cons
      (ps_set (i := 2) sc_finest_of.nd rfl (by first | exact Or.inl rfl | exact Or.inr rfl) (pe_call c_reachable_of.G (hr.mono (by decide)) rfl c_reachable_of.m c_reachable_of.kp c_reachable_of.b .nil pass0 (pa_cons (pv 0) pa_nil)))
      (pss_cons
      (ps_set (i := 3) sc_finest_of.nd rfl (by first | exact Or.inl rfl | exact Or.inr rfl) pe_dnewK)
      (pss_cons
      (ps_for PassesOwn.never rfl (piTK K (pv 2)) (pg_name (i := 4) sc_finest_of.nd rfl (by first | exact Or.inl rfl | exact Or.inr rfl)) (pss_one
       (ps_expr (pe_dsetd (pv 3) (pe_ix (ixK K) (pv 1) (pv 4) (fun _ _ => rfl)) (pe_callB call_lenD (by rfl) T.b_len bt_len (pa_cons (pv 3) pa_nil)) ⟨rfl, rfl, rfl, rfl⟩))))
      (pss_one
      (ps_ret (pe_callTy (tupleK K) (by rfl) T.b_tuple bt_tuple (pa_cons (pe_lc (own := [("state", 4)]) (g := gName 4) rfl sc_finest_of.nd (pi_range1 rfl T.b_range (pa_cons (pe_ix (ixK K) (pv 0) pe_int (fun _ _ => rfl)) pa_nil)) (blkOk_by (own := [("state", 4)]) (N := ["system", "blocks", "reachable", "numbers", "state"]) (sc := defScope s_finest_of) (by decide +kernel)) (fun _ _ _ _ _ => (pg_name (i := 4) sc_finest_of.nd rfl (by first | exact Or.inl rfl | exact Or.inr rfl))) (fun _ _ _ _ _ => pts_nil) (fun _ _ _ _ _ => (pe_ifExp (pt_cmpR (inK K) (pv 4) (pv 2) (by with_unfolding_all rfl)) (pe_dget hu (pv 3) (pe_ix (ixK K) (pv 1) (pv 4) (fun _ _ => rfl)) (fun _ _ => rfl)) pe_non))) pa_nil)))))))), ?_⟩
  refine body_P h fun ds Q hT => ?_
  obtain ⟨s, rfl, hw, k⟩ := hT
  have hn8 := hw.n8
  have hr8 := Nat.le_trans (reach_len s) hw.n8
  walk_at "w"
  refine ⟨s, rfl, hw, fun B X hC => ⟨_, rfl, ?_⟩⟩
  have hBl := hC.stable.len
  walk_at "w"
  refine rd_ixT (d := .lst (natD B)) rfl ?_
  walk_at "w"
  refine ⟨s, rfl, hw, _, rfl, ?_⟩
  refine ws_seq (ws_asgC (wc_dnewK fun q => ?_))
  refine ws_seq (ws_for (wi_tup (we_var (d := .tup (natD s.reach)) rfl ⟨_, rfl, fun i ρ' => ∃ N x4, N.Nodup ∧ (∀ u x, u < i → s.reach[u]? = some x → bl B x ∈ N) ∧ N.length ≤ i ∧ ρ' = foR s B q N x4, ⟨[], none, List.nodup_nil, (fun u a h => absurd h (Nat.not_lt_zero u)), Nat.le_refl _, rfl⟩, ?_, ?_⟩)))
  · rintro i d ρ' hd ⟨N, x4, hN, hi, hl, rfl⟩
    obtain ⟨x, hx, rfl⟩ := natD_at hd
    have hxr := hw.mem_reach.mp (List.mem_of_getElem? hx)
    have hi8 := (List.getElem?_eq_some_iff.mp hx).1
    refine wg_name (ws_drop (we_setd1 (i := 3) rfl ?_))
    walk_at "w"
    refine rd_ixL (bl_at (by rw [hBl]; exact hxr.lt hw)) ?_
    refine we_lenDk (i := 3) rfl ?_
    refine ⟨q, _, nk N, rfl, rfl, by rw [nk_len]; omega, fun d kvs' hk => ?_⟩
    rcases hk with ⟨h1, h2⟩ | ⟨h1, h2, h3⟩
    · have hm : bl B x ∈ N := by
        refine Classical.byContradiction fun z => ?_
        rw [nk_none.mpr z] at h1; cases h1
      refine ⟨N, _, hN, fun u y hu hy => ?_, by omega, by rw [h2]; rfl⟩
      by_cases e : u = i
      · subst e
        rw [hx] at hy; cases hy
        exact hm
      · exact hi u y (by omega) hy
    · have hm := nk_none.mp h1
      refine ⟨N ++ [bl B x], some (.imm (.int (x : Int))), List.nodup_append.mpr ⟨hN, by simp, fun a ha b hb e => ?_⟩, fun u y hu hy => ?_, by rw [List.length_append, List.length_singleton]; omega, by rw [h2]; unfold foR; rw [nk_append, nk_len]; rfl⟩
      · rw [e, List.mem_singleton.mp hb] at ha; exact hm ha
      · by_cases e : u = i
        · subst e
          rw [hx] at hy; cases hy
          exact List.mem_append_right _ (List.mem_cons_self ..)
        · exact List.mem_append_left _ (hi u y (by omega) hy)
  · rintro ρ' ⟨N, x4, hN, hi, hl, rfl⟩
    have hm : ∀ x, Rc s x → bl B x ∈ N := fun x hx => by
      obtain ⟨v, hv⟩ := List.mem_iff_getElem?.mp (hw.mem_reach.mpr hx)
      exact hi v x (by rw [natD_length]; exact (List.getElem?_eq_some_iff.mp hv).1) hv
    rw [natD_length] at hl
    walk_at "w"
    refine we_lc (wi_range ?_)
    walk_at "w"
    refine rd_ixT (d := .int (s.n : Int)) rfl ?_
    walk_at "w"
    refine ⟨s.n, rfl, by omega, fun i acc ρ' => acc.length = i ∧ (∀ x, x < i → Rc s x → acc[x]? = some (.int (ix N (bl B x) : Int))) ∧ ρ' = foR s B q N none, by rw [rgD_length]; omega, ⟨rfl, (fun u h => absurd h (Nat.not_lt_zero u)), rfl⟩, ?_, ?_⟩
    · rintro i d acc ρ' hd ⟨h1, h2, rfl⟩
      have hin : i < s.n := by
        have := (List.getElem?_eq_some_iff.mp hd).1
        rw [rgD_length] at this; exact this
      rw [rgD_get hin] at hd
      cases hd
      refine wgv_name (by decide) ?_
      refine wt_yes ⟨fun _ => ?_, fun z => by cases z⟩
      walk_at "w"
      refine rd_in (ns := s.reach.map fun x : Nat => (x : Int)) (.inl (by rw [natD_ints])) ⟨_, rfl, fun hb => ?_, fun hb => ?_⟩
      · have hir : Rc s i := hw.mem_reach.mp (mem_cast.mp (of_decide_eq_true hb))
        refine we_dgetK (i := 3) rfl ?_
        walk_at "w"
        refine rd_ixL (bl_at (by rw [hBl]; exact hin)) ?_
        refine ⟨q, _, nk N, _, rfl, rfl, nk_some hN (ix_at (hm i hir)), by rw [List.length_append, h1]; rfl, fun x hx hr => ?_, rfl⟩
        by_cases e : x = i
        · subst e
          rw [List.getElem?_append_right (by omega), h1, Nat.sub_self]; rfl
        · rw [List.getElem?_append_left (by omega)]
          exact h2 x (by omega) hr
      · have hir : ¬ Rc s i := fun z => by
          rw [decide_eq_true (mem_cast.mpr (hw.mem_reach.mpr z))] at hb; cases hb
        walk_at "w"
        refine ⟨by rw [List.length_append, h1]; rfl, fun x hx hr => ?_, rfl⟩
        by_cases e : x = i
        · subst e; exact absurd hr hir
        · rw [List.getElem?_append_left (by omega)]
          exact h2 x (by omega) hr
    · rintro acc ρ' ⟨h1, h2, rfl⟩
      rw [rgD_length] at h1 h2
      walk_at "w"
      refine rc_tuple (.inr rfl) (k acc ⟨h1, B, X, fun x => ix N (bl B x), hC, fun x hx => h2 x (hx.lt hw) hx, fun x y hx hy => ix_iff (hm x hx) (hm y hy)⟩)
theorem sc_finest : FnScope ["system"] ["system"] (defScope s_finest) := ⟨rfl, rfl, rfl, by decide +kernel, rfl, by decide +kernel, by decide +kernel⟩
def T_finest : List D → (Cell → Prop) → Prop := fun ds Q => ∃ (s : Sys), ds = [sysD s] ∧ s.Wf ∧ ∀ es, s.Fin es → Q (.imm (.tup es))
theorem len_finest : ∀ ds Q, T_finest ds Q → ds.length = 1 := fun ds Q ⟨s, h, _⟩ => by rw [h]; rfl
theorem ok_finest {f : Addr} {fd : FuncData} (T : Txt K mg) (F : FnP K "finest" s_finest f fd) {f_check_system : Addr} {fd_check_system : FuncData} (c_check_system : Cal P w K mg base "check_system" 3 ["system"] (spP T_check_system) f_check_system fd_check_system) {f_finest_of : Addr} {fd_finest_of : FuncData} (c_finest_of : Cal P w K mg base "finest_of" 7 ["system"] (spP T_finest_of) f_finest_of fd_finest_of) : FnOk P w K mg base CX0 8 f fd ["system"] (spP T_finest) := by
  refine F.ok sc_finest (fun vs H Q E h => len_P len_finest h) (fun cdv A outer s H vs Q E hr h => ?_)
  have hu := hu_of hr
  refine ⟨_, PSs.nox (pss_cons
      (ps_expr (pe_call c_check_system.G (hr.mono (by decide)) rfl c_check_system.m c_check_system.kp c_check_system.b .nil pass0 (pa_cons (pv 0) pa_nil)))
      (pss_one
      (ps_ret (pe_call c_finest_of.G (hr.mono (by decide)) rfl c_finest_of.m c_finest_of.kp c_finest_of.b .nil pass0 (pa_cons (pv 0) pa_nil))))), ?_⟩
  refine body_P h fun ds Q hT => ?_
  obtain ⟨s, rfl, hw, k⟩ := hT
  walk_at "w"
  refine ⟨s, rfl, hw, _, rfl, ?_⟩
  walk_at "w"
  exact ⟨s, rfl, hw, fun es he => ⟨_, rfl, k es he⟩⟩
theorem sc_check_two : FnScope ["system", "one", "other", "reachable"] ["system", "one", "other"] (defScope s_check_two) := ⟨rfl, rfl, rfl, by decide +kernel, rfl, by decide +kernel, by decide +kernel⟩
def T_check_two : List D → (Cell → Prop) → Prop := fun ds Q => ∃ (s : Sys) (a b : Nat), ds = [sysD s, .int (a : Int), .int (b : Int)] ∧ s.Wf ∧ Rc s a ∧ Rc s b ∧ Q (.imm .non)
theorem len_check_two : ∀ ds Q, T_check_two ds Q → ds.length = 3 := fun ds Q ⟨s, a, b, h, _⟩ => by rw [h]; rfl
theorem ok_check_two {f : Addr} {fd : FuncData} (T : Txt K mg) (F : FnP K "check_two" s_check_two f fd) {f_check_system : Addr} {fd_check_system : FuncData} (c_check_system : Cal P w K mg base "check_system" 3 ["system"] (spP T_check_system) f_check_system fd_check_system) {f_reachable_of : Addr} {fd_reachable_of : FuncData} (c_reachable_of : Cal P w K mg base "reachable_of" 3 ["system"] (spP T_reachable_of) f_reachable_of fd_reachable_of) {f_is_whole : Addr} {fd_is_whole : FuncData} (c_is_whole : Cal P w K mg base "is_whole" 1 ["value", "low", "high"] (spP T_is_whole) f_is_whole fd_is_whole) : FnOk P w K mg base CX0 4 f fd ["system", "one", "other"] (spP T_check_two) := by
  refine F.ok sc_check_two (fun vs H Q E h => len_P len_check_two h) (fun cdv A outer s H vs Q E hr h => ?_)
  have hu := hu_of hr
  refine ⟨_, PSs.nox (pss_cons
      (ps_expr (pe_call c_check_system.G (hr.mono (by decide)) rfl c_check_system.m c_check_system.kp c_check_system.b .nil pass0 (pa_cons (pv 0) pa_nil)))
      (pss_cons
      (ps_set (i := 3) sc_check_two.nd rfl (by first | exact Or.inl rfl | exact Or.inr rfl) (pe_call c_reachable_of.G (hr.mono (by decide)) rfl c_reachable_of.m c_reachable_of.kp c_reachable_of.b .nil pass0 (pa_cons (pv 0) pa_nil)))
      (pss_cons
      (ps_if (PW.pt (pw_or (pt_not (pt_val (pe_call c_is_whole.G (hr.mono (by decide)) rfl c_is_whole.m c_is_whole.kp c_is_whole.b .nil pass0 (pa_cons (pv 1) (pa_cons pe_int (pa_cons (pe_op op_sub (pe_ix (ixK K) (pv 0) pe_int (fun _ _ => rfl)) pe_int) pa_nil)))))) (pw_or1 (pt_cmpR (notInK K) (pv 1) (pv 3) (by with_unfolding_all rfl))))) (pss_one
       ps_never) pss_nil)
      (pss_one
      (ps_if (PW.pt (pw_or (pt_not (pt_val (pe_call c_is_whole.G (hr.mono (by decide)) rfl c_is_whole.m c_is_whole.kp c_is_whole.b .nil pass0 (pa_cons (pv 2) (pa_cons pe_int (pa_cons (pe_op op_sub (pe_ix (ixK K) (pv 0) pe_int (fun _ _ => rfl)) pe_int) pa_nil)))))) (pw_or1 (pt_cmpR (notInK K) (pv 2) (pv 3) (by with_unfolding_all rfl))))) (pss_one
       ps_never) pss_nil))))), ?_⟩
  refine body_P h fun ds Q hT => ?_
  obtain ⟨s, a, b, rfl, hw, ha, hb, k⟩ := hT
  have hal := ha.lt hw
  have hbl := hb.lt hw
  walk_at "w"
  refine ⟨s, rfl, hw, _, rfl, ?_⟩
  walk_at "w"
  refine ⟨s, rfl, hw, _, rfl, ?_⟩
  refine ws_seq (ws_ifF (wt_orF ?_))
  walk_at "w"
  refine rd_ixT (d := .int (s.n : Int)) rfl ?_
  walk_at "w"
  refine rd_I0 (g := fun i j => i - j) ?_
  walk_at "w"
  refine ⟨_, _, _, rfl, _, rfl, _, rfl, ?_⟩
  refine ⟨by rw [isW_yes (by omega) (by omega)]; rfl, ?_⟩
  walk_at "w"
  refine rd_notIn (ns := s.reach.map fun x : Nat => (x : Int)) (.inl (by rw [natD_ints])) ⟨_, rfl, by rw [decide_eq_true (mem_cast.mpr (hw.mem_reach.mpr ha))]; rfl, ?_⟩
  refine ws_next (ws_ifF (wt_orF ?_))
  walk_at "w"
  refine rd_ixT (d := .int (s.n : Int)) rfl ?_
  walk_at "w"
  refine rd_I0 (g := fun i j => i - j) ?_
  walk_at "w"
  refine ⟨_, _, _, rfl, _, rfl, _, rfl, ?_⟩
  refine ⟨by rw [isW_yes (by omega) (by omega)]; rfl, ?_⟩
  walk_at "w"
  refine rd_notIn (ns := s.reach.map fun x : Nat => (x : Int)) (.inl (by rw [natD_ints])) ⟨_, rfl, by rw [decide_eq_true (mem_cast.mpr (hw.mem_reach.mpr hb))]; rfl, ?_⟩
  exact ws_next k
theorem sc_joins : FnScope ["system", "one", "other", "blocks", "steps", "item", "pair"] ["system", "one", "other"] (defScope s_joins) := ⟨rfl, rfl, rfl, by decide +kernel, rfl, by decide +kernel, by decide +kernel⟩
def T_joins : List D → (Cell → Prop) → Prop := fun ds Q => ∃ (s : Sys) (a b : Nat), ds = [sysD s, .int (a : Int), .int (b : Int)] ∧ s.Wf ∧ Rc s a ∧ Rc s b ∧ ∀ B X, s.Cl B X → Q (.imm (if bl B a = bl B b then .tup (X.map (·.1)) else .non))
theorem len_joins : ∀ ds Q, T_joins ds Q → ds.length = 3 := fun ds Q ⟨s, a, b, h, _⟩ => by rw [h]; rfl
theorem ok_joins {f : Addr} {fd : FuncData} (T : Txt K mg) (F : FnP K "joins" s_joins f fd) {f_check_two : Addr} {fd_check_two : FuncData} (c_check_two : Cal P w K mg base "check_two" 4 ["system", "one", "other"] (spP T_check_two) f_check_two fd_check_two) {f_closed : Addr} {fd_closed : FuncData} (c_closed : Cal P w K mg base "closed" 6 ["system"] (spP T_closed) f_closed fd_closed) : FnOk P w K mg base CX0 7 f fd ["system", "one", "other"] (spP T_joins) := by
  refine F.ok sc_joins (fun vs H Q E h => len_P len_joins h) (fun cdv A outer s H vs Q E hr h => ?_)
  have hu := hu_of hr
  refine ⟨_, PSs.nox (pss_cons
      (ps_expr (pe_call c_check_two.G (hr.mono (by decide)) rfl c_check_two.m c_check_two.kp c_check_two.b .nil pass0 (pa_cons (pv 0) (pa_cons (pv 1) (pa_cons (pv 2) pa_nil)))))
      (pss_cons
      (ps_asg (pe_call c_closed.G (hr.mono (by decide)) rfl c_closed.m c_closed.kp c_closed.b .nil pass0 (pa_cons (pv 0) pa_nil)) (tupTK K (n := 2) rfl (pgs_cons (pg_name (i := 3) sc_joins.nd rfl (by first | exact Or.inl rfl | exact Or.inr rfl)) (pgs_cons (pg_name (i := 4) sc_joins.nd rfl (by first | exact Or.inl rfl | exact Or.inr rfl)) pgs_nil))))
      (pss_one
      (ps_ret (pe_ifExp (pt_cmpR op_eq (pe_ix (ixK K) (pv 3) (pv 1) (fun _ _ => rfl)) (pe_ix (ixK K) (pv 3) (pv 2) (fun _ _ => rfl)) (nomark _)) (pe_callTy (tupleK K) (by rfl) T.b_tuple bt_tuple (pa_cons (pe_lc (own := [("item", 5), ("pair", 6)]) rfl sc_joins.nd (piLK K (pv 4)) (blkOk_by (own := [("item", 5), ("pair", 6)]) (N := ["system", "one", "other", "blocks", "steps", "item", "pair"]) (sc := defScope s_joins) (by decide +kernel)) (fun _ _ _ _ _ => (tupTK K (n := 2) rfl (pgs_cons (pg_name (i := 5) sc_joins.nd rfl (by first | exact Or.inl rfl | exact Or.inr rfl)) (pgs_cons (pg_name (i := 6) sc_joins.nd rfl (by first | exact Or.inl rfl | exact Or.inr rfl)) pgs_nil)))) (fun _ _ _ _ _ => pts_nil) (fun _ _ _ _ _ => (pv 5))) pa_nil)) pe_non))))), ?_⟩
  refine body_P h fun ds Q hT => ?_
  obtain ⟨s, a, b, rfl, hw, ha, hb, k⟩ := hT
  walk_at "w"
  refine ⟨s, a, b, rfl, hw, ha, hb, _, rfl, ?_⟩
  refine ws_seq (ws_asgG ?_)
  walk_at "w"
  refine ⟨s, rfl, hw, fun B X hC => ⟨_, rfl, ?_⟩⟩
  have hBl := hC.stable.len
  have hXl := hC.len
  have k := k B X hC
  refine wg_tup rfl (wgs_cons (wg_name (wgs_cons (wg_name (wgs_nil ?_)))))
  walk_at "w"
  refine rd_ixL (bl_at (by rw [hBl]; exact ha.lt hw)) ?_
  walk_at "w"
  refine rd_ixL (bl_at (by rw [hBl]; exact hb.lt hw)) ?_
  refine rd_eqI ⟨_, rfl, fun hb => ?_, fun hb => ?_⟩
  · have hb := of_decide_eq_true hb
    rw [if_pos (by omega)] at k
    walk_at "w"
    refine we_lc (wi_list (we_var (d := .lst (stD X)) rfl ⟨_, rfl, fun i acc ρ' => acc = (X.map (·.1)).take i ∧ ρ' = [some (.imm (sysD s)), some (.imm (.int (a : Int))), some (.imm (.int (b : Int))), some (.imm (.lst (natD B))), some (.imm (.lst (stD X))), none, none], by rw [stD_len]; omega, ⟨rfl, rfl⟩, ?_, ?_⟩))
    · rintro i d acc ρ' hd ⟨rfl, rfl⟩
      obtain ⟨⟨d, p⟩, he, rfl⟩ := stD_at hd
      refine wgv_tup rfl (wgvs_cons (wgv_name (by decide) (wgvs_cons (wgv_name (by decide) (wgvs_nil ?_)))))
      refine wt_yes ⟨fun _ => ?_, fun z => by cases z⟩
      walk_at "w"
      exact ⟨(take_snoc (by rw [List.getElem?_map, he]; rfl)).symm, rfl⟩
    · rintro acc ρ' ⟨rfl, rfl⟩
      walk_at "w"
      refine rc_tuple (.inr rfl) ?_
      rw [stD_len, show (X.map (·.1)).take X.length = X.map (·.1) by rw [List.take_of_length_le (by rw [List.length_map]; exact Nat.le_refl _)]]
      exact k
  · have hb := of_decide_eq_false hb
    rw [if_neg (by omega)] at k
    walk_at "w"
    exact k
end
end K47

set_option Elab.async false
set_option linter.all false
set_option maxRecDepth 100000
set_option maxHeartbeats 4000000
namespace K47
open PySem L2
local macro_rules | `(tactic| walk_at "w1") => `(tactic| first
  | with_reducible refine ws_seq ?_
  | with_reducible refine ws_ret ?_
  | with_reducible refine ws_asg ?_
  | with_reducible refine ws_drop ?_
  | with_reducible refine ws_if ?_
  | with_reducible refine ws_next ?_
  | ((with_reducible refine' we_var ?hv ?_); (case hv => exact rfl))
  | with_reducible refine we_int ?_
  | with_reducible refine we_bl ?_
  | with_reducible refine we_non ?_
  | with_reducible refine we_str ?_
  | with_reducible refine we_callP ?_
  | with_reducible refine we_isi (by decide) ?_
  | with_reducible refine we_cb ?_
  | with_reducible refine we_op ?_
  | with_reducible refine we_un ?_
  | with_reducible refine we_chain ?_
  | with_reducible refine we_andV ?_
  | with_reducible refine we_orV ?_
  | with_reducible refine we_notV ?_
  | with_reducible refine we_if ?_
  | with_reducible refine we_tup ?_
  | with_reducible refine we_lst ?_
  | with_reducible refine wa_nil ?_
  | with_reducible refine wa_cons ?_
  | with_reducible refine wt_test ?_
  | with_reducible refine wt_B ?_
  | with_reducible refine wt_not ?_
  | with_reducible refine wt_and ?_
  | with_reducible refine wt_or ?_
  | with_reducible refine wt_yes ?_
  | with_reducible refine wt_truK ?_)
local macro_rules | `(tactic| walk_at "w") => `(tactic| repeat walk_at "w1")
section
variable {te ta tb : TE} {tt t u : TT} {ρ : Rho} {Qb : Bool → Rho → Prop}
theorem wt_orT (h : WT t ρ fun b ρ1 => b = true ∧ Qb true ρ1) : WT (tOr t u) ρ Qb := wt_or fun σ F H E Qc k => h σ F H E Qc fun b ρ1 F1 H1 ⟨e, q⟩ => k b ρ1 F1 H1 ⟨(fun _ => q), fun z => by rw [e] at z; cases z⟩
theorem wt_andF (h : WT t ρ fun b ρ1 => b = false ∧ Qb false ρ1) : WT (tAnd t u) ρ Qb := wt_and fun σ F H E Qc k => h σ F H E Qc fun b ρ1 F1 H1 ⟨e, q⟩ => k b ρ1 F1 H1 ⟨(fun z => by rw [e] at z; cases z), fun _ => q⟩
end
theorem cm_cases (s : Sys) (d : D) : (∃ c : Nat, c < s.k ∧ d = .int (c : Int) ∧ s.cm d = some c ∧ isW d 0 ((s.k : Int) - 1) = true) ∨ (s.cm d = none ∧ isW d 0 ((s.k : Int) - 1) = false) := by
  cases d with
  | int i =>
    rw [Sys.cm_int, isW_int]
    by_cases c : 0 ≤ i ∧ i < s.k
    · refine .inl ⟨i.toNat, by omega, by rw [Int.toNat_of_nonneg c.1], if_pos c, ?_⟩
      rw [decide_eq_true c.1, decide_eq_true (by omega)]; rfl
    · refine .inr ⟨if_neg c, ?_⟩
      by_cases h : 0 ≤ i
      · rw [decide_eq_false (show ¬ i ≤ (s.k : Int) - 1 by omega), Bool.and_false]
      · rw [decide_eq_false h]; rfl
  | _ => exact .inr ⟨rfl, rfl⟩
theorem rd_cases {s : Sys} (w : s.Wf) (d : D) : (∃ x : Nat, Rc s x ∧ d = .int (x : Int) ∧ s.rd d = some x ∧ isW d 0 ((s.n : Int) - 1) = true) ∨ (s.rd d = none ∧ (isW d 0 ((s.n : Int) - 1) = false ∨ ∃ x : Nat, d = .int (x : Int) ∧ ¬ Rc s x ∧ isW d 0 ((s.n : Int) - 1) = true)) := by
  cases d with
  | int i =>
    rw [Sys.rd_int, isW_int]
    by_cases h : 0 ≤ i
    · by_cases c : Rc s i.toNat
      · have := c.lt w
        refine .inl ⟨i.toNat, c, by rw [Int.toNat_of_nonneg h], if_pos ⟨h, c⟩, ?_⟩
        rw [decide_eq_true h, decide_eq_true (by omega)]; rfl
      · refine .inr ⟨if_neg fun z => c z.2, ?_⟩
        by_cases z : i ≤ (s.n : Int) - 1
        · refine .inr ⟨i.toNat, by rw [Int.toNat_of_nonneg h], c, ?_⟩
          rw [decide_eq_true h, decide_eq_true z]; rfl
        · refine .inl ?_
          rw [decide_eq_false z, Bool.and_false]
    · refine .inr ⟨if_neg fun z => h z.1, .inl ?_⟩
      rw [decide_eq_false h]; rfl
  | _ => exact .inr ⟨rfl, .inl rfl⟩
theorem cms_all (s : Sys) : ∀ ds : List D, (s.cms ds).isSome = (ds.map fun d => isW d 0 ((s.k : Int) - 1)).all id
  | [] => rfl
  | d :: ds => by
    have ih := cms_all s ds
    rw [List.map_cons, List.all_cons, ← ih]
    have e : s.cms (d :: ds) = (match s.cm d, s.cms ds with | some c, some q => some (c :: q) | _, _ => none) := rfl
    rw [e]
    rcases cm_cases s d with ⟨c, _, _, h1, h2⟩ | ⟨h1, h2⟩
    · rw [h1, h2]
      cases s.cms ds <;> rfl
    · rw [h1, h2]; rfl
theorem cms_nats {s : Sys} : ∀ {ds : List D} {q : List Nat}, s.cms ds = some q → ds = natD q
  | [], q, h => by cases h; rfl
  | d :: ds, q, h => by
    unfold Sys.cms at h
    split at h
    · rename_i c r h1 h2
      cases h
      rcases cm_cases s d with ⟨c', _, e, h3, _⟩ | ⟨h3, _⟩
      · rw [h1] at h3; cases h3
        rw [e, cms_nats h2]; rfl
      · rw [h1] at h3; cases h3
    · cases h
theorem sq_nats {s : Sys} {d : D} {q : List Nat} (h : s.sq d = some q) : d = .tup (natD q) ∧ s.Sq q ∧ q.length ≤ 64 := by
  have h0 := Sys.sq_some h
  cases d with
  | tup ds =>
    rw [Sys.sq_tup] at h
    by_cases c : ds.length ≤ 64
    · rw [if_pos c] at h
      have := cms_nats h
      subst this
      rw [natD_length] at c
      exact ⟨rfl, h0, c⟩
    · rw [if_neg c] at h; cases h
  | _ => cases h
theorem sC_ne : ¬ sC = sA := fun z => sA_ne z.symm
theorem tailP_c (s : Sys) (B : List Nat) (a b c : D) : s.tailP B sC [a, b, c] = s.cmdP B a b c := by
  unfold Sys.tailP
  exact if_pos rfl
theorem tailP_c_no (s : Sys) (B : List Nat) : ∀ ds : List D, ds.length ≠ 3 → s.tailP B sC ds = none
  | [], _ => rfl
  | [_], _ => rfl
  | [_, _], _ => rfl
  | [_, _, _], h => absurd rfl h
  | [_, _, _, _], _ => by unfold Sys.tailP; exact if_neg sC_ne
  | _ :: _ :: _ :: _ :: _ :: _, _ => rfl
theorem tailP_a (s : Sys) (B : List Nat) (a c q r : D) : s.tailP B sA [a, c, q, r] = s.actP B a c q r := by
  unfold Sys.tailP
  exact if_pos rfl
theorem tailP_a_no (s : Sys) (B : List Nat) : ∀ ds : List D, ds.length ≠ 4 → s.tailP B sA ds = none
  | [], _ => rfl
  | [_], _ => rfl
  | [_, _], _ => rfl
  | [_, _, _], h => by unfold Sys.tailP; exact if_neg sA_ne
  | [_, _, _, _], h => absurd rfl h
  | _ :: _ :: _ :: _ :: _ :: _, _ => rfl
theorem tailP_no (s : Sys) (B : List Nat) {x : Str} (h1 : ¬ x = sC) (h2 : ¬ x = sA) : ∀ ds : List D, s.tailP B x ds = none
  | [] => rfl
  | [_] => rfl
  | [_, _] => rfl
  | [_, _, _] => by unfold Sys.tailP; exact if_neg h1
  | [_, _, _, _] => by unfold Sys.tailP; exact if_neg h2
  | _ :: _ :: _ :: _ :: _ :: _ => rfl
theorem len3 {ds : List D} (h : ds.length = 3) : ∃ a b c, ds = [a, b, c] := by
  match ds, h with
  | [a, b, c], _ => exact ⟨a, b, c, rfl⟩
theorem len4 {ds : List D} (h : ds.length = 4) : ∃ a b c d, ds = [a, b, c, d] := by
  match ds, h with
  | [a, b, c, d], _ => exact ⟨a, b, c, d, rfl⟩
theorem at0 {e : D} {es : List D} : atI (e :: es) 0 = some e := show atI _ ((0 : Nat) : Int) = _ from atI_nat rfl

section
variable {P : Program} {w : World} {K : PySem.W.Frag} {mg : Str → Option Value} {base : Heap}
theorem sc_is_long_sequence : FnScope ["system", "value", "one"] ["system", "value"] (defScope s_is_long_sequence) := ⟨rfl, rfl, rfl, by decide +kernel, rfl, by decide +kernel, by decide +kernel⟩
def T_is_long_sequence : List D → (Cell → Prop) → Prop := fun ds Q => ∃ (s : Sys) (d : D), ds = [sysD s, d] ∧ Q (.imm (.bl (s.sq d).isSome))
theorem len_is_long_sequence : ∀ ds Q, T_is_long_sequence ds Q → ds.length = 2 := fun ds Q ⟨s, d, h, _⟩ => by rw [h]; rfl
theorem ok_is_long_sequence {f : Addr} {fd : FuncData} (T : Txt K mg) (F : FnP K "is_long_sequence" s_is_long_sequence f fd) {f_is_command : Addr} {fd_is_command : FuncData} (c_is_command : Cal P w K mg base "is_command" 2 ["system", "value"] (spP T_is_command) f_is_command fd_is_command) : FnOk P w K mg base CX0 3 f fd ["system", "value"] (spP T_is_long_sequence) := by
  refine F.ok sc_is_long_sequence (fun vs H Q E h => len_P len_is_long_sequence h) (fun cdv A outer s H vs Q E hr h => ?_)
  have hu := hu_of hr
  obtain ⟨t_LONGEST, k_LONGEST⟩ := T.k_LONGEST
  refine ⟨_, PSs.nox (pss_one
      (ps_ret (pe_and (pe_callB (isiK K) (by rfl) T.b_isinstance bt_isinstance (pa_cons (pv 1) (pa_cons (pe_bltn (v := .ty "tuple") (by rfl) T.b_tuple bt_tuple rfl) pa_nil))) (pe_and (pe_cmpR op_le (pe_callB (lenK K) (by rfl) T.b_len bt_len (pa_cons (pv 1) pa_nil)) (pe_glob (v := .int 64) rfl k_LONGEST ⟨_, rfl⟩) (nomark _)) (pe_one (pe_callB (allK K rfl) (by rfl) T.b_all bt_all (pa_cons (pe_lc (own := [("one", 2)]) (g := gName 2) rfl sc_is_long_sequence.nd (piTK K (pv 1)) (blkOk_by (own := [("one", 2)]) (N := ["system", "value", "one"]) (sc := defScope s_is_long_sequence) (by decide +kernel)) (fun _ _ _ _ _ => (pg_name (i := 2) sc_is_long_sequence.nd rfl (by first | exact Or.inl rfl | exact Or.inr rfl))) (fun _ _ _ _ _ => pts_nil) (fun _ _ _ _ _ => (pe_call c_is_command.G (hr.mono (by decide)) rfl c_is_command.m c_is_command.kp c_is_command.b .nil pass0 (pa_cons (pv 0) (pa_cons (pv 2) pa_nil))))) pa_nil))))))), ?_⟩
  refine body_P h fun ds Q hT => ?_
  obtain ⟨s, d, rfl, k⟩ := hT
  walk_at "w"
  cases d with
  | tup ds =>
    refine ⟨true, rfl, fun _ => ?_, fun z => by cases z⟩
    walk_at "w"
    refine rc_len (.inl rfl) ?_
    walk_at "w"
    refine rd_B0 ⟨_, rfl, fun hb => ?_, fun hb => ?_⟩
    · have hb := of_decide_eq_true hb
      walk_at "w"
      refine we_lc (wi_tup (we_var (d := .tup ds) rfl ⟨_, rfl, fun i acc ρ' => acc = ((ds.take i).map fun d => isW d 0 ((s.k : Int) - 1)).map D.bl ∧ ρ' = [some (.imm (sysD s)), some (.imm (.tup ds)), none], by omega, ⟨rfl, rfl⟩, ?_, ?_⟩))
      · rintro i d acc ρ' hd ⟨rfl, rfl⟩
        refine wgv_name (by decide) ?_
        refine wt_yes ⟨fun _ => ?_, fun z => by cases z⟩
        walk_at "w"
        refine ⟨s, d, rfl, _, rfl, ?_, rfl⟩
        rw [take_snoc hd, List.map_append, List.map_append]
        rfl
      · rintro acc ρ' ⟨rfl, rfl⟩
        rw [List.take_length]
        walk_at "w"
        refine rc_all rfl ?_
        rw [← cms_all, ← show s.sq (.tup ds) = s.cms ds by rw [Sys.sq_tup, if_pos (by omega)]]
        exact k
    · have hb := of_decide_eq_false hb
      rw [Sys.sq_tup, if_neg (by omega)] at k
      exact k
  | _ => exact ⟨false, rfl, (fun z => by cases z), fun _ => k⟩
theorem sc_command_pair : FnScope ["system", "blocks", "value", "reachable", "one"] ["system", "blocks", "value"] (defScope s_command_pair) := ⟨rfl, rfl, rfl, by decide +kernel, rfl, by decide +kernel, by decide +kernel⟩
def T_command_pair : List D → (Cell → Prop) → Prop := fun ds Q => ∃ (s : Sys) (B : List Nat) (x : Str) (es : List D), ds = [sysD s, .lst (natD B), .tup (.str x :: es)] ∧ s.Wf ∧ B.length = s.n ∧ Q (.imm (optD (s.tailP B sC es)))
theorem len_command_pair : ∀ ds Q, T_command_pair ds Q → ds.length = 3 := fun ds Q ⟨s, B, x, es, h, _⟩ => by rw [h]; rfl
theorem ok_command_pair {f : Addr} {fd : FuncData} (T : Txt K mg) (F : FnP K "command_pair" s_command_pair f fd) {f_is_command : Addr} {fd_is_command : FuncData} (c_is_command : Cal P w K mg base "is_command" 2 ["system", "value"] (spP T_is_command) f_is_command fd_is_command) {f_reachable_of : Addr} {fd_reachable_of : FuncData} (c_reachable_of : Cal P w K mg base "reachable_of" 3 ["system"] (spP T_reachable_of) f_reachable_of fd_reachable_of) {f_is_whole : Addr} {fd_is_whole : FuncData} (c_is_whole : Cal P w K mg base "is_whole" 1 ["value", "low", "high"] (spP T_is_whole) f_is_whole fd_is_whole) {f_step : Addr} {fd_step : FuncData} (c_step : Cal P w K mg base "step" 1 ["system", "state", "command"] (spP T_step) f_step fd_step) : FnOk P w K mg base CX0 4 f fd ["system", "blocks", "value"] (spP T_command_pair) := by
  refine F.ok sc_command_pair (fun vs H Q E h => len_P len_command_pair h) (fun cdv A outer s H vs Q E hr h => ?_)
  have hu := hu_of hr
  refine ⟨_, PSs.nox (pss_cons
      (ps_if (PW.pt (pw_or (pt_cmpR op_ne (pe_callB (lenK K) (by rfl) T.b_len bt_len (pa_cons (pv 2) pa_nil)) pe_int (nomark _)) (pw_or1 (pt_not (pt_val (pe_call c_is_command.G (hr.mono (by decide)) rfl c_is_command.m c_is_command.kp c_is_command.b .nil pass0 (pa_cons (pv 0) (pa_cons (pe_ix (ixK K) (pv 2) pe_int (fun _ _ => rfl)) pa_nil)))))))) (pss_one
       (ps_ret pe_non)) pss_nil)
      (pss_cons
      (ps_set (i := 3) sc_command_pair.nd rfl (by first | exact Or.inl rfl | exact Or.inr rfl) (pe_call c_reachable_of.G (hr.mono (by decide)) rfl c_reachable_of.m c_reachable_of.kp c_reachable_of.b .nil pass0 (pa_cons (pv 0) pa_nil)))
      (pss_cons
      (ps_if (pt_not (pt_val (pe_callB (allK K rfl) (by rfl) T.b_all bt_all (pa_cons (pe_lc (own := [("one", 4)]) (g := gName 4) rfl sc_command_pair.nd (piTK K (pe_slice (slK K) (pv 2) (po_some pe_int) (po_some pe_int))) (blkOk_by (own := [("one", 4)]) (N := ["system", "blocks", "value", "reachable", "one"]) (sc := defScope s_command_pair) (by decide +kernel)) (fun _ _ _ _ _ => (pg_name (i := 4) sc_command_pair.nd rfl (by first | exact Or.inl rfl | exact Or.inr rfl))) (fun _ _ _ _ _ => pts_nil) (fun _ _ _ _ _ => (pe_and (pe_call c_is_whole.G (hr.mono (by decide)) rfl c_is_whole.m c_is_whole.kp c_is_whole.b .nil pass0 (pa_cons (pv 4) (pa_cons pe_int (pa_cons (pe_op op_sub (pe_ix (ixK K) (pv 0) pe_int (fun _ _ => rfl)) pe_int) pa_nil)))) (pe_one (pe_cmpR (inK K) (pv 4) (pv 3) (by with_unfolding_all rfl)))))) pa_nil)))) (pss_one
       (ps_ret pe_non)) pss_nil)
      (pss_cons
      (ps_if (pt_cmpR op_ne (pe_ix (ixK K) (pv 1) (pe_ix (ixK K) (pv 2) pe_int (fun _ _ => rfl)) (fun _ _ => rfl)) (pe_ix (ixK K) (pv 1) (pe_ix (ixK K) (pv 2) pe_int (fun _ _ => rfl)) (fun _ _ => rfl)) (nomark _)) (pss_one
       (ps_ret pe_non)) pss_nil)
      (pss_one
      (ps_ret (pe_tup (pa_cons (pe_call c_step.G (hr.mono (by decide)) rfl c_step.m c_step.kp c_step.b .nil pass0 (pa_cons (pv 0) (pa_cons (pe_ix (ixK K) (pv 2) pe_int (fun _ _ => rfl)) (pa_cons (pe_ix (ixK K) (pv 2) pe_int (fun _ _ => rfl)) pa_nil)))) (pa_cons (pe_call c_step.G (hr.mono (by decide)) rfl c_step.m c_step.kp c_step.b .nil pass0 (pa_cons (pv 0) (pa_cons (pe_ix (ixK K) (pv 2) pe_int (fun _ _ => rfl)) (pa_cons (pe_ix (ixK K) (pv 2) pe_int (fun _ _ => rfl)) pa_nil)))) pa_nil))))))))), ?_⟩
  refine body_P h fun ds Q hT => ?_
  obtain ⟨s, B, x, es, rfl, hw, hB, k⟩ := hT
  by_cases h3 : es.length = 3
  case neg =>
    rw [tailP_c_no s B es h3] at k
    refine ws_seq (ws_ifT (wt_orT ?_))
    walk_at "w"
    refine rc_len (.inl rfl) ?_
    walk_at "w"
    refine rd_neI ⟨_, rfl, by rw [decide_eq_false (by simp; omega)]; rfl, rfl, ?_⟩
    walk_at "w"
    exact k
  obtain ⟨a, b, c, rfl⟩ := len3 h3
  rw [tailP_c] at k
  refine ws_seq (ws_if (wt_orF ?_))
  walk_at "w"
  refine rc_len (.inl rfl) ?_
  walk_at "w"
  refine rd_neI ⟨_, rfl, rfl, ?_⟩
  walk_at "w"
  refine rd_ixT (d := c) rfl ?_
  walk_at "w"
  refine ⟨s, c, rfl, _, rfl, _, rfl, ?_⟩
  unfold Sys.cmdP at k
  rcases cm_cases s c with ⟨m, hm, rfl, e1, e2⟩ | ⟨e1, e2⟩
  case inr =>
    rw [e2]
    refine ⟨fun _ => ?_, fun z => by cases z⟩
    walk_at "w"
    rw [e1] at k
    cases h1 : s.rd a <;> cases h2 : s.rd b <;> rw [h1, h2] at k <;> exact k
  rw [e2]
  refine ⟨(fun z => by cases z), fun _ => ?_⟩
  rw [e1] at k
  walk_at "w"
  refine ⟨s, rfl, hw, _, rfl, ?_⟩
  walk_at "w"
  refine we_lc (wi_tup (we_slice ?_))
  walk_at "w"
  refine wo_some ?_
  walk_at "w"
  refine ⟨_, rfl, wo_some ?_⟩
  walk_at "w"
  refine ⟨_, rfl, _, rfl, [a, b], rfl, fun i acc ρ' => acc = (([a, b].take i).map fun d => (s.rd d).isSome).map D.bl ∧ ρ' = [some (.imm (sysD s)), some (.imm (.lst (natD B))), some (.imm (.tup [.str x, a, b, .int (m : Int)])), some (.imm (.tup (natD s.reach))), none], by simp, ⟨rfl, rfl⟩, ?_, ?_⟩
  · rintro i d acc ρ' hd ⟨rfl, rfl⟩
    refine wgv_name (by decide) ?_
    refine wt_yes ⟨fun _ => ?_, fun z => by cases z⟩
    have fin : ∀ bb, bb = (s.rd d).isSome → (([a, b].take i).map fun d => (s.rd d).isSome).map D.bl ++ [D.bl bb] = (([a, b].take (i + 1)).map fun d => (s.rd d).isSome).map D.bl := fun bb e => by
      rw [take_snoc hd, List.map_append, List.map_append, e]
      rfl
    walk_at "w"
    refine rd_ixT (d := .int (s.n : Int)) rfl ?_
    walk_at "w"
    refine rd_I0 (g := fun i j => i - j) ?_
    walk_at "w"
    refine ⟨_, _, _, rfl, _, rfl, _, rfl, ?_⟩
    rcases rd_cases hw d with ⟨y, hy, rfl, r1, r2⟩ | ⟨r1, r2 | ⟨y, rfl, hy, r2⟩⟩
    · rw [r2]
      refine ⟨fun _ => ?_, fun z => by cases z⟩
      walk_at "w"
      refine rd_in (ns := s.reach.map fun x : Nat => (x : Int)) (.inl (by rw [natD_ints])) ⟨fin _ ?_, rfl⟩
      rw [r1, decide_eq_true (mem_cast.mpr (hw.mem_reach.mpr hy))]; rfl
    · rw [r2]
      exact ⟨(fun z => by cases z), fun _ => ⟨fin _ (by rw [r1]; rfl), rfl⟩⟩
    · rw [r2]
      refine ⟨fun _ => ?_, fun z => by cases z⟩
      walk_at "w"
      refine rd_in (ns := s.reach.map fun x : Nat => (x : Int)) (.inl (by rw [natD_ints])) ⟨fin _ ?_, rfl⟩
      rw [r1, decide_eq_false fun z => hy (hw.mem_reach.mp (mem_cast.mp z))]; rfl
  rintro acc ρ' ⟨rfl, rfl⟩
  walk_at "w"
  refine rc_all rfl ⟨_, rfl, ?_⟩
  have none_ : (s.rd a = none ∨ s.rd b = none) → Q (.imm .non) := fun h => by
    rcases h with h | h
    · rw [h] at k; exact k
    · cases h1 : s.rd a <;> rw [h, h1] at k <;> exact k
  have hb1 : ((([a, b].take [a, b].length).map fun d => (s.rd d).isSome).all id) = ((s.rd a).isSome && ((s.rd b).isSome && true)) := by
    rw [List.take_length]; rfl
  rw [hb1]
  rcases rd_cases hw a with ⟨y, hy, rfl, r1, _⟩ | ⟨r1, _⟩
  case inr =>
    rw [r1]
    refine ⟨fun _ => ?_, fun z => by cases z⟩
    walk_at "w"
    exact none_ (.inl r1)
  rcases rd_cases hw b with ⟨z, hz, rfl, r2, _⟩ | ⟨r2, _⟩
  case inr =>
    rw [r1, r2]
    refine ⟨fun _ => ?_, fun z => by cases z⟩
    walk_at "w"
    exact none_ (.inr r2)
  rw [r1, r2] at k
  rw [r1, r2]
  refine ⟨(fun z => by cases z), fun _ => ?_⟩
  have k : Q (.imm (optD (if bl B y = bl B z then some (s.nx y m, s.nx z m) else none))) := k
  walk_at "w"
  refine rd_ixT (d := .int (y : Int)) rfl ?_
  refine rd_ixL (bl_at (by rw [hB]; exact hy.lt hw)) ?_
  walk_at "w"
  refine rd_ixT (d := .int (z : Int)) rfl ?_
  refine rd_ixL (bl_at (by rw [hB]; exact hz.lt hw)) ?_
  refine rd_neI ⟨_, rfl, fun hb => ?_, fun hb => ?_⟩
  · rw [if_neg fun e => by rw [e, decide_eq_true rfl] at hb; cases hb] at k
    walk_at "w"
    exact k
  · have he : bl B y = bl B z := by
      refine Classical.byContradiction fun e => ?_
      rw [decide_eq_false (fun q => e (by omega))] at hb; cases hb
    rw [if_pos he] at k
    walk_at "w"
    refine rd_ixT (d := .int (y : Int)) rfl ?_
    walk_at "w"
    refine rd_ixT (d := .int (m : Int)) rfl ?_
    walk_at "w"
    refine ⟨s, y, m, rfl, hw, hy.lt hw, hm, _, rfl, ?_⟩
    walk_at "w"
    refine rd_ixT (d := .int (z : Int)) rfl ?_
    walk_at "w"
    refine rd_ixT (d := .int (m : Int)) rfl ?_
    walk_at "w"
    refine ⟨s, z, m, rfl, hw, hz.lt hw, hm, _, rfl, ?_⟩
    walk_at "w"
    exact ⟨by simp, k⟩
theorem sc_action_pair : FnScope ["system", "blocks", "value", "after", "one"] ["system", "blocks", "value"] (defScope s_action_pair) := ⟨rfl, rfl, rfl, by decide +kernel, rfl, by decide +kernel, by decide +kernel⟩
def T_action_pair : List D → (Cell → Prop) → Prop := fun ds Q => ∃ (s : Sys) (B : List Nat) (x : Str) (es : List D), ds = [sysD s, .lst (natD B), .tup (.str x :: es)] ∧ s.Wf ∧ B.length = s.n ∧ Q (.imm (optD (s.tailP B sA es)))
theorem len_action_pair : ∀ ds Q, T_action_pair ds Q → ds.length = 3 := fun ds Q ⟨s, B, x, es, h, _⟩ => by rw [h]; rfl
theorem ok_action_pair {f : Addr} {fd : FuncData} (T : Txt K mg) (F : FnP K "action_pair" s_action_pair f fd) {f_reachable_of : Addr} {fd_reachable_of : FuncData} (c_reachable_of : Cal P w K mg base "reachable_of" 3 ["system"] (spP T_reachable_of) f_reachable_of fd_reachable_of) {f_is_whole : Addr} {fd_is_whole : FuncData} (c_is_whole : Cal P w K mg base "is_whole" 1 ["value", "low", "high"] (spP T_is_whole) f_is_whole fd_is_whole) {f_is_long_sequence : Addr} {fd_is_long_sequence : FuncData} (c_is_long_sequence : Cal P w K mg base "is_long_sequence" 3 ["system", "value"] (spP T_is_long_sequence) f_is_long_sequence fd_is_long_sequence) {f_is_command : Addr} {fd_is_command : FuncData} (c_is_command : Cal P w K mg base "is_command" 2 ["system", "value"] (spP T_is_command) f_is_command fd_is_command) {f_step : Addr} {fd_step : FuncData} (c_step : Cal P w K mg base "step" 1 ["system", "state", "command"] (spP T_step) f_step fd_step) {f_led : Addr} {fd_led : FuncData} (c_led : Cal P w K mg base "led" 2 ["system", "state", "sequence"] (spP T_led) f_led fd_led) : FnOk P w K mg base CX0 4 f fd ["system", "blocks", "value"] (spP T_action_pair) := by
  refine F.ok sc_action_pair (fun vs H Q E h => len_P len_action_pair h) (fun cdv A outer s H vs Q E hr h => ?_)
  have hu := hu_of hr
  refine ⟨_, PSs.nox (pss_cons
      (ps_if (PW.pt (pw_or (pt_cmpR op_ne (pe_callB (lenK K) (by rfl) T.b_len bt_len (pa_cons (pv 2) pa_nil)) pe_int (nomark _)) (pw_or (pt_not (pt_val (pe_call c_is_whole.G (hr.mono (by decide)) rfl c_is_whole.m c_is_whole.kp c_is_whole.b .nil pass0 (pa_cons (pe_ix (ixK K) (pv 2) pe_int (fun _ _ => rfl)) (pa_cons pe_int (pa_cons (pe_op op_sub (pe_ix (ixK K) (pv 0) pe_int (fun _ _ => rfl)) pe_int) pa_nil)))))) (pw_or1 (pt_cmpR (notInK K) (pe_ix (ixK K) (pv 2) pe_int (fun _ _ => rfl)) (pe_call c_reachable_of.G (hr.mono (by decide)) rfl c_reachable_of.m c_reachable_of.kp c_reachable_of.b .nil pass0 (pa_cons (pv 0) pa_nil)) (by with_unfolding_all rfl)))))) (pss_one
       (ps_ret pe_non)) pss_nil)
      (pss_cons
      (ps_if (PW.pt (pw_or (pt_not (pt_val (pe_call c_is_command.G (hr.mono (by decide)) rfl c_is_command.m c_is_command.kp c_is_command.b .nil pass0 (pa_cons (pv 0) (pa_cons (pe_ix (ixK K) (pv 2) pe_int (fun _ _ => rfl)) pa_nil))))) (pw_or1 (pt_not (pt_val (pe_callB (allK K rfl) (by rfl) T.b_all bt_all (pa_cons (pe_lc (own := [("one", 4)]) (g := gName 4) rfl sc_action_pair.nd (piTK K (pe_slice (slK K) (pv 2) (po_some pe_int) po_none)) (blkOk_by (own := [("one", 4)]) (N := ["system", "blocks", "value", "after", "one"]) (sc := defScope s_action_pair) (by decide +kernel)) (fun _ _ _ _ _ => (pg_name (i := 4) sc_action_pair.nd rfl (by first | exact Or.inl rfl | exact Or.inr rfl))) (fun _ _ _ _ _ => pts_nil) (fun _ _ _ _ _ => (pe_call c_is_long_sequence.G (hr.mono (by decide)) rfl c_is_long_sequence.m c_is_long_sequence.kp c_is_long_sequence.b .nil pass0 (pa_cons (pv 0) (pa_cons (pv 4) pa_nil))))) pa_nil))))))) (pss_one
       (ps_ret pe_non)) pss_nil)
      (pss_cons
      (ps_set (i := 3) sc_action_pair.nd rfl (by first | exact Or.inl rfl | exact Or.inr rfl) (pe_call c_step.G (hr.mono (by decide)) rfl c_step.m c_step.kp c_step.b .nil pass0 (pa_cons (pv 0) (pa_cons (pe_ix (ixK K) (pv 2) pe_int (fun _ _ => rfl)) (pa_cons (pe_ix (ixK K) (pv 2) pe_int (fun _ _ => rfl)) pa_nil)))))
      (pss_cons
      (ps_if (pt_cmpR op_ne (pe_ix (ixK K) (pv 1) (pe_call c_led.G (hr.mono (by decide)) rfl c_led.m c_led.kp c_led.b .nil pass0 (pa_cons (pv 0) (pa_cons (pv 3) (pa_cons (pe_ix (ixK K) (pv 2) pe_int (fun _ _ => rfl)) pa_nil)))) (fun _ _ => rfl)) (pe_ix (ixK K) (pv 1) (pe_call c_led.G (hr.mono (by decide)) rfl c_led.m c_led.kp c_led.b .nil pass0 (pa_cons (pv 0) (pa_cons (pv 3) (pa_cons (pe_ix (ixK K) (pv 2) pe_int (fun _ _ => rfl)) pa_nil)))) (fun _ _ => rfl)) (nomark _)) (pss_one
       (ps_ret pe_non)) pss_nil)
      (pss_one
      (ps_ret (pe_tup (pa_cons (pe_call c_led.G (hr.mono (by decide)) rfl c_led.m c_led.kp c_led.b .nil pass0 (pa_cons (pv 0) (pa_cons (pe_ix (ixK K) (pv 2) pe_int (fun _ _ => rfl)) (pa_cons (pe_ix (ixK K) (pv 2) pe_int (fun _ _ => rfl)) pa_nil)))) (pa_cons (pe_call c_led.G (hr.mono (by decide)) rfl c_led.m c_led.kp c_led.b .nil pass0 (pa_cons (pv 0) (pa_cons (pe_ix (ixK K) (pv 2) pe_int (fun _ _ => rfl)) (pa_cons (pe_ix (ixK K) (pv 2) pe_int (fun _ _ => rfl)) pa_nil)))) pa_nil))))))))), ?_⟩
  refine body_P h fun ds Q hT => ?_
  obtain ⟨s, B, x, es, rfl, hw, hB, k⟩ := hT
  by_cases h3 : es.length = 4
  case neg =>
    rw [tailP_a_no s B es h3] at k
    refine ws_seq (ws_ifT (wt_orT ?_))
    walk_at "w"
    refine rc_len (.inl rfl) ?_
    walk_at "w"
    refine rd_neI ⟨_, rfl, by rw [decide_eq_false (by simp; omega)]; rfl, rfl, ?_⟩
    walk_at "w"
    exact k
  obtain ⟨a, c, q, r, rfl⟩ := len4 h3
  rw [tailP_a] at k
  unfold Sys.actP at k
  refine ws_seq (ws_if (wt_orF ?_))
  walk_at "w"
  refine rc_len (.inl rfl) ?_
  walk_at "w"
  refine rd_neI ⟨_, rfl, rfl, ?_⟩
  walk_at "w"
  refine rd_ixT (d := a) rfl ?_
  walk_at "w"
  refine rd_ixT (d := .int (s.n : Int)) rfl ?_
  walk_at "w"
  refine rd_I0 (g := fun i j => i - j) ?_
  walk_at "w"
  refine ⟨_, _, _, rfl, _, rfl, _, rfl, ?_⟩
  have none_a : s.rd a = none → Q (.imm .non) := fun h => by
    rw [h] at k; exact k
  rcases rd_cases hw a with ⟨y, hy, rfl, r1, r2⟩ | ⟨r1, r2 | ⟨y, rfl, hy, r2⟩⟩
  case inr.inl =>
    rw [r2]
    refine ⟨fun _ => ⟨fun _ => ?_, fun z => by cases z⟩, fun z => by cases z⟩
    walk_at "w"
    exact none_a r1
  case inr.inr =>
    rw [r2]
    refine ⟨(fun z => by cases z), fun _ => ?_⟩
    walk_at "w"
    refine rd_ixT (d := .int (y : Int)) rfl ?_
    walk_at "w"
    refine ⟨s, rfl, hw, _, rfl, ?_⟩
    refine rd_notIn (ns := s.reach.map fun x : Nat => (x : Int)) (.inl (by rw [natD_ints])) ⟨_, rfl, ?_⟩
    rw [decide_eq_false fun z => hy (hw.mem_reach.mp (mem_cast.mp z))]
    refine ⟨fun _ => ?_, fun z => by cases z⟩
    walk_at "w"
    exact none_a r1
  rw [r2]
  refine ⟨(fun z => by cases z), fun _ => ?_⟩
  walk_at "w"
  refine rd_ixT (d := .int (y : Int)) rfl ?_
  walk_at "w"
  refine ⟨s, rfl, hw, _, rfl, ?_⟩
  refine rd_notIn (ns := s.reach.map fun x : Nat => (x : Int)) (.inl (by rw [natD_ints])) ⟨_, rfl, ?_⟩
  rw [decide_eq_true (mem_cast.mpr (hw.mem_reach.mpr hy))]
  refine ⟨(fun z => by cases z), fun _ => ?_⟩
  rw [r1] at k
  walk_at "w"
  refine rd_ixT (d := c) rfl ?_
  walk_at "w"
  refine ⟨s, c, rfl, _, rfl, _, rfl, ?_⟩
  rcases cm_cases s c with ⟨m, hm, rfl, e1, e2⟩ | ⟨e1, e2⟩
  case inr =>
    rw [e2]
    refine ⟨fun _ => ⟨fun _ => ?_, fun z => by cases z⟩, fun z => by cases z⟩
    walk_at "w"
    rw [e1] at k
    exact k
  rw [e2]
  refine ⟨(fun z => by cases z), fun _ => ?_⟩
  rw [e1] at k
  walk_at "w"
  refine we_lc (wi_tup (we_slice ?_))
  walk_at "w"
  refine wo_some ?_
  walk_at "w"
  refine ⟨_, rfl, wo_none ?_⟩
  refine ⟨_, rfl, [q, r], rfl, fun i acc ρ' => acc = (([q, r].take i).map fun d => (s.sq d).isSome).map D.bl ∧ ρ' = [some (.imm (sysD s)), some (.imm (.lst (natD B))), some (.imm (.tup [.str x, .int (y : Int), .int (m : Int), q, r])), none, none], by simp, ⟨rfl, rfl⟩, ?_, ?_⟩
  · rintro i d acc ρ' hd ⟨rfl, rfl⟩
    refine wgv_name (by decide) ?_
    refine wt_yes ⟨fun _ => ?_, fun z => by cases z⟩
    walk_at "w"
    refine ⟨s, d, rfl, _, rfl, ?_, rfl⟩
    rw [take_snoc hd, List.map_append, List.map_append]
    rfl
  rintro acc ρ' ⟨rfl, rfl⟩
  walk_at "w"
  refine rc_all rfl ⟨_, rfl, ?_⟩
  have hb1 : ((([q, r].take [q, r].length).map fun d => (s.sq d).isSome).all id) = ((s.sq q).isSome && ((s.sq r).isSome && true)) := by
    rw [List.take_length]; rfl
  rw [hb1]
  cases h1 : s.sq q with
  | none =>
    rw [h1] at k
    refine ⟨fun _ => ?_, fun z => by cases z⟩
    walk_at "w"
    exact k
  | some u =>
  cases h2 : s.sq r with
  | none =>
    rw [h1, h2] at k
    refine ⟨fun _ => ?_, fun z => by cases z⟩
    walk_at "w"
    exact k
  | some v =>
  rw [h1, h2] at k
  have k : Q (.imm (optD (if bl B (s.led (s.nx y m) u) = bl B (s.led (s.nx y m) v) then some (s.led y u, s.led y v) else none))) := k
  obtain ⟨rfl, hu, _⟩ := sq_nats h1
  obtain ⟨rfl, hv, _⟩ := sq_nats h2
  have hyn := hy.lt hw
  have hny := hw.nx hyn hm
  refine ⟨(fun z => by cases z), fun _ => ?_⟩
  walk_at "w"
  refine rd_ixT (d := .int (y : Int)) rfl ?_
  walk_at "w"
  refine rd_ixT (d := .int (m : Int)) rfl ?_
  walk_at "w"
  refine ⟨s, y, m, rfl, hw, hyn, hm, _, rfl, ?_⟩
  walk_at "w"
  refine rd_ixT (d := .tup (natD u)) rfl ?_
  walk_at "w"
  refine ⟨s, s.nx y m, u, rfl, hw, hny, hu, _, rfl, ?_⟩
  refine rd_ixL (bl_at (by rw [hB]; exact hw.led hny hu)) ?_
  walk_at "w"
  refine rd_ixT (d := .tup (natD v)) rfl ?_
  walk_at "w"
  refine ⟨s, s.nx y m, v, rfl, hw, hny, hv, _, rfl, ?_⟩
  refine rd_ixL (bl_at (by rw [hB]; exact hw.led hny hv)) ?_
  refine rd_neI ⟨_, rfl, fun hb => ?_, fun hb => ?_⟩
  · rw [if_neg fun e => by rw [e, decide_eq_true rfl] at hb; cases hb] at k
    walk_at "w"
    exact k
  · have he : bl B (s.led (s.nx y m) u) = bl B (s.led (s.nx y m) v) := by
      refine Classical.byContradiction fun e => ?_
      rw [decide_eq_false (fun q => e (by omega))] at hb; cases hb
    rw [if_pos he] at k
    walk_at "w"
    refine rd_ixT (d := .int (y : Int)) rfl ?_
    walk_at "w"
    refine rd_ixT (d := .tup (natD u)) rfl ?_
    walk_at "w"
    refine ⟨s, y, u, rfl, hw, hyn, hu, _, rfl, ?_⟩
    walk_at "w"
    refine rd_ixT (d := .int (y : Int)) rfl ?_
    walk_at "w"
    refine rd_ixT (d := .tup (natD v)) rfl ?_
    walk_at "w"
    refine ⟨s, y, v, rfl, hw, hyn, hv, _, rfl, ?_⟩
    walk_at "w"
    exact ⟨by simp, k⟩
theorem sc_pair_of : FnScope ["system", "blocks", "value"] ["system", "blocks", "value"] (defScope s_pair_of) := ⟨rfl, rfl, rfl, by decide +kernel, rfl, by decide +kernel, by decide +kernel⟩
def T_pair_of : List D → (Cell → Prop) → Prop := fun ds Q => ∃ (s : Sys) (B : List Nat) (d : D), ds = [sysD s, .lst (natD B), d] ∧ s.Wf ∧ B.length = s.n ∧ Q (.imm (optD (s.pairOf B d)))
theorem len_pair_of : ∀ ds Q, T_pair_of ds Q → ds.length = 3 := fun ds Q ⟨s, B, x, h, _⟩ => by rw [h]; rfl
theorem Str_eq (a b : Str) : a = b ∨ a ≠ b := Classical.em _
theorem ok_pair_of {f : Addr} {fd : FuncData} (T : Txt K mg) (F : FnP K "pair_of" s_pair_of f fd) {f_command_pair : Addr} {fd_command_pair : FuncData} (c_command_pair : Cal P w K mg base "command_pair" 4 ["system", "blocks", "value"] (spP T_command_pair) f_command_pair fd_command_pair) {f_action_pair : Addr} {fd_action_pair : FuncData} (c_action_pair : Cal P w K mg base "action_pair" 4 ["system", "blocks", "value"] (spP T_action_pair) f_action_pair fd_action_pair) : FnOk P w K mg base CX0 5 f fd ["system", "blocks", "value"] (spP T_pair_of) := by
  refine F.ok sc_pair_of (fun vs H Q E h => len_P len_pair_of h) (fun cdv A outer s H vs Q E hr h => ?_)
  have hu := hu_of hr
  refine ⟨_, PSs.nox (pss_cons
      (ps_if (PW.pt (pw_or (pt_not (pt_val (pe_callB (isiK K) (by rfl) T.b_isinstance bt_isinstance (pa_cons (pv 2) (pa_cons (pe_bltn (v := .ty "tuple") (by rfl) T.b_tuple bt_tuple rfl) pa_nil))))) (pw_or (pt_not (truK K (pv 2) (by intro _; rfl))) (pw_or1 (pt_not (pt_val (pe_callB (isiK K) (by rfl) T.b_isinstance bt_isinstance (pa_cons (pe_ix (ixK K) (pv 2) pe_int (fun _ _ => rfl)) (pa_cons (pe_bltn (v := .ty "str") (by rfl) T.b_str bt_str rfl) pa_nil))))))))) (pss_one
       (ps_ret pe_non)) pss_nil)
      (pss_cons
      (ps_if (pt_cmpR op_eq (pe_ix (ixK K) (pv 2) pe_int (fun _ _ => rfl)) pe_str (nomark _)) (pss_one
       (ps_ret (pe_call c_command_pair.G (hr.mono (by decide)) rfl c_command_pair.m c_command_pair.kp c_command_pair.b .nil pass0 (pa_cons (pv 0) (pa_cons (pv 1) (pa_cons (pv 2) pa_nil)))))) pss_nil)
      (pss_one
      (ps_ret (pe_ifExp (pt_cmpR op_eq (pe_ix (ixK K) (pv 2) pe_int (fun _ _ => rfl)) pe_str (nomark _)) (pe_call c_action_pair.G (hr.mono (by decide)) rfl c_action_pair.m c_action_pair.kp c_action_pair.b .nil pass0 (pa_cons (pv 0) (pa_cons (pv 1) (pa_cons (pv 2) pa_nil)))) pe_non))))), ?_⟩
  refine body_P h fun ds Q hT => ?_
  obtain ⟨s, B, d, rfl, hw, hB, k⟩ := hT
  cases d with
  | tup ds =>
    cases ds with
    | nil =>
      refine ws_seq (ws_ifT (wt_orF ?_))
      walk_at "w"
      refine ⟨_, rfl, rfl, wt_orT ?_⟩
      walk_at "w"
      refine ⟨_, rfl, rfl, rfl, ?_⟩
      walk_at "w"
      exact k
    | cons e es =>
      refine ws_seq (ws_if (wt_orF ?_))
      walk_at "w"
      refine ⟨_, rfl, rfl, wt_orF ?_⟩
      walk_at "w"
      refine ⟨_, rfl, rfl, ?_⟩
      walk_at "w"
      refine rd_ixT (d := e) at0 ?_
      walk_at "w"
      cases e with
      | str x =>
        refine ⟨_, rfl, (fun z => by cases z), fun _ => ?_⟩
        walk_at "w"
        refine rd_ixT (d := .str x) at0 ?_
        walk_at "w"
        refine rd_eqS ⟨_, rfl, fun hb => ?_, fun hb => ?_⟩
        · have hb : x = sC := of_decide_eq_true hb
          walk_at "w"
          refine ⟨s, B, x, es, rfl, hw, hB, _, rfl, ?_⟩
          rw [← hb]
          exact k
        · have hb : ¬ x = sC := of_decide_eq_false hb
          walk_at "w"
          refine rd_ixT (d := .str x) at0 ?_
          walk_at "w"
          refine rd_eqS ⟨_, rfl, fun hb2 => ?_, fun hb2 => ?_⟩
          · have hb2 : x = sA := of_decide_eq_true hb2
            walk_at "w"
            refine ⟨s, B, x, es, rfl, hw, hB, _, rfl, ?_⟩
            rw [← hb2]
            exact k
          · have hb2 : ¬ x = sA := of_decide_eq_false hb2
            walk_at "w"
            have e : s.pairOf B (.tup (.str x :: es)) = none := tailP_no s B hb hb2 es
            rw [e] at k
            exact k
      | _ =>
        refine ⟨_, rfl, (fun _ => ?_), fun z => by cases z⟩
        walk_at "w"
        exact k
  | _ =>
    refine ws_seq (ws_ifT (wt_orT ?_))
    walk_at "w"
    refine ⟨_, rfl, rfl, rfl, ?_⟩
    walk_at "w"
    exact k
theorem sc_accepts_joins : FnScope ["system", "one", "other", "value", "blocks", "item", "pair"] ["system", "one", "other", "value"] (defScope s_accepts_joins) := ⟨rfl, rfl, rfl, by decide +kernel, rfl, by decide +kernel, by decide +kernel⟩
def T_accepts_joins : List D → (Cell → Prop) → Prop := fun ds Q => ∃ (s : Sys) (a b : Nat) (d : D), ds = [sysD s, .int (a : Int), .int (b : Int), d] ∧ s.Wf ∧ Rc s a ∧ Rc s b ∧ Q (.imm (.bl (s.acc a b d)))
theorem len_accepts_joins : ∀ ds Q, T_accepts_joins ds Q → ds.length = 4 := fun ds Q ⟨s, a, b, d, h, _⟩ => by rw [h]; rfl
theorem Sys.run_none {s : Sys} {B C : List Nat} {ds : List D} {i : Nat} {d : D} (h : s.run B (ds.take i) = some C) (hd : ds[i]? = some d) (hp : s.pairOf C d = none) : s.run B ds = none := by
  have e : ds = ds.take i ++ d :: ds.drop (i + 1) := by
    obtain ⟨hi, e⟩ := List.getElem?_eq_some_iff.mp hd
    rw [← e, ← List.drop_eq_getElem_cons hi, List.take_append_drop]
  rw [e, Sys.run_append, h]
  show s.run C (d :: _) = none
  rw [Sys.run_cons, hp]
theorem Sys.run_step {s : Sys} {B C : List Nat} {ds : List D} {i : Nat} {d : D} {p : Nat × Nat} (h : s.run B (ds.take i) = some C) (hd : ds[i]? = some d) (hp : s.pairOf C d = some p) : s.run B (ds.take (i + 1)) = some (joinB C p.1 p.2) := by
  rw [take_snoc hd, Sys.run_append, h]
  show s.run C [d] = _
  rw [Sys.run_cons, hp]
  rfl
theorem Sys.acc_long {s : Sys} {a b : Nat} {ds : List D} (h : ¬ ds.length ≤ 100) : s.acc a b (.tup ds) = false := by
  unfold Sys.acc
  show (decide _ && _) = _
  rw [decide_eq_false h]; rfl
theorem Sys.acc_none {s : Sys} {a b : Nat} {ds : List D} (h : s.run (List.range s.n) ds = none) : s.acc a b (.tup ds) = false := by
  unfold Sys.acc
  show (decide _ && _) = _
  rw [h, Bool.and_false]
theorem Sys.acc_some {s : Sys} {a b : Nat} {ds : List D} {B : List Nat} (hl : ds.length ≤ 100) (h : s.run (List.range s.n) ds = some B) : s.acc a b (.tup ds) = decide (bl B a = bl B b) := by
  unfold Sys.acc
  show (decide _ && _) = _
  rw [h, decide_eq_true hl]; rfl
theorem dec_cast (a b : Nat) : decide ((a : Int) = (b : Int)) = decide (a = b) := by
  by_cases h : a = b
  · rw [h, decide_eq_true rfl, decide_eq_true rfl]
  · rw [decide_eq_false h, decide_eq_false fun z => h (by omega)]
theorem ok_accepts_joins {f : Addr} {fd : FuncData} (T : Txt K mg) (F : FnP K "accepts_joins" s_accepts_joins f fd) {f_check_two : Addr} {fd_check_two : FuncData} (c_check_two : Cal P w K mg base "check_two" 4 ["system", "one", "other"] (spP T_check_two) f_check_two fd_check_two) {f_alone : Addr} {fd_alone : FuncData} (c_alone : Cal P w K mg base "alone" 1 ["system"] (spP T_alone) f_alone fd_alone) {f_pair_of : Addr} {fd_pair_of : FuncData} (c_pair_of : Cal P w K mg base "pair_of" 5 ["system", "blocks", "value"] (spP T_pair_of) f_pair_of fd_pair_of) {f_join : Addr} {fd_join : FuncData} (c_join : Cal P w K mg base "join" 1 ["blocks", "one", "other"] (spP T_join) f_join fd_join) : FnOk P w K mg base CX0 6 f fd ["system", "one", "other", "value"] (spP T_accepts_joins) := by
  refine F.ok sc_accepts_joins (fun vs H Q E h => len_P len_accepts_joins h) (fun cdv A outer s H vs Q E hr h => ?_)
  have hu := hu_of hr
  obtain ⟨t_MOST_STEPS, k_MOST_STEPS⟩ := T.k_MOST_STEPS
  refine ⟨_, PSs.nox (pss_cons
      (ps_expr (pe_call c_check_two.G (hr.mono (by decide)) rfl c_check_two.m c_check_two.kp c_check_two.b .nil pass0 (pa_cons (pv 0) (pa_cons (pv 1) (pa_cons (pv 2) pa_nil)))))
      (pss_cons
      (ps_if (PW.pt (pw_or (pt_not (pt_val (pe_callB (isiK K) (by rfl) T.b_isinstance bt_isinstance (pa_cons (pv 3) (pa_cons (pe_bltn (v := .ty "tuple") (by rfl) T.b_tuple bt_tuple rfl) pa_nil))))) (pw_or1 (pt_cmpR op_gt (pe_callB (lenK K) (by rfl) T.b_len bt_len (pa_cons (pv 3) pa_nil)) (pe_glob (v := .int 100) rfl k_MOST_STEPS ⟨_, rfl⟩) (nomark _))))) (pss_one
       (ps_ret pe_bl)) pss_nil)
      (pss_cons
      (ps_set (i := 4) sc_accepts_joins.nd rfl (by first | exact Or.inl rfl | exact Or.inr rfl) (pe_call c_alone.G (hr.mono (by decide)) rfl c_alone.m c_alone.kp c_alone.b .nil pass0 (pa_cons (pv 0) pa_nil)))
      (pss_cons
      (ps_for PassesOwn.never rfl (piTK K (pv 3)) (pg_name (i := 5) sc_accepts_joins.nd rfl (by first | exact Or.inl rfl | exact Or.inr rfl)) (pss_cons
       (ps_set (i := 6) sc_accepts_joins.nd rfl (by first | exact Or.inl rfl | exact Or.inr rfl) (pe_call c_pair_of.G (hr.mono (by decide)) rfl c_pair_of.m c_pair_of.kp c_pair_of.b .nil pass0 (pa_cons (pv 0) (pa_cons (pv 4) (pa_cons (pv 5) pa_nil)))))
       (pss_cons
       (ps_if (pt_cmpR op_isN1 (pv 6) pe_non (nomark _)) (pss_one
        (ps_ret pe_bl)) pss_nil)
       (pss_one
       (ps_set (i := 4) sc_accepts_joins.nd rfl (by first | exact Or.inl rfl | exact Or.inr rfl) (pe_call c_join.G (hr.mono (by decide)) rfl c_join.m c_join.kp c_join.b .nil pass0 (pa_cons (pv 4) (pa_cons (pe_ix (ixK K) (pv 6) pe_int (fun _ _ => rfl)) (pa_cons (pe_ix (ixK K) (pv 6) pe_int (fun _ _ => rfl)) pa_nil)))))))))
      (pss_one
      (ps_ret (pe_cmpR op_eq (pe_ix (ixK K) (pv 4) (pv 1) (fun _ _ => rfl)) (pe_ix (ixK K) (pv 4) (pv 2) (fun _ _ => rfl)) (nomark _)))))))), ?_⟩
  refine body_P h fun ds Q hT => ?_
  obtain ⟨s, a, b, d, rfl, hw, ha, hb, k⟩ := hT
  have hn8 := hw.n8
  walk_at "w"
  refine ⟨s, a, b, rfl, hw, ha, hb, _, rfl, ?_⟩
  cases d with
  | tup ds =>
    refine ws_seq (ws_if (wt_orF ?_))
    walk_at "w"
    refine ⟨_, rfl, rfl, ?_⟩
    walk_at "w"
    refine rc_len (.inl rfl) ?_
    walk_at "w"
    refine rd_B0 ⟨_, rfl, fun hb' => ?_, fun hb' => ?_⟩
    · have hb' := of_decide_eq_true hb'
      rw [Sys.acc_long (by omega)] at k
      walk_at "w"
      exact k
    have hb' := of_decide_eq_false hb'
    walk_at "w"
    refine ⟨s, rfl, hw, _, rfl, ?_⟩
    refine ws_seq (ws_for (wi_tup (we_var (d := .tup ds) rfl ⟨_, rfl, fun i ρ' => ∃ B x5 x6, s.run (List.range s.n) (ds.take i) = some B ∧ B.length = s.n ∧ ρ' = [some (.imm (sysD s)), some (.imm (.int (a : Int))), some (.imm (.int (b : Int))), some (.imm (.tup ds)), some (.imm (.lst (natD B))), x5, x6], ⟨List.range s.n, none, none, rfl, List.length_range, rfl⟩, ?_, ?_⟩)))
    · rintro i d ρ' hd ⟨B, x5, x6, hr, hB, rfl⟩
      refine wg_name ?_
      walk_at "w"
      refine ⟨s, B, d, rfl, hw, hB, _, rfl, ?_⟩
      walk_at "w"
      cases hp : s.pairOf B d with
      | none =>
        refine rd_isN ⟨_, rfl, (fun _ => ?_), fun z => by cases z⟩
        walk_at "w"
        rw [Sys.acc_none (Sys.run_none hr hd hp)] at k
        exact k
      | some p =>
        obtain ⟨p1, p2⟩ := hw.pairOf_lt hp
        refine rd_isN ⟨_, rfl, (fun z => by cases z), fun _ => ?_⟩
        walk_at "w"
        refine rd_ixT (d := .int (p.1 : Int)) rfl ?_
        walk_at "w"
        refine rd_ixT (d := .int (p.2 : Int)) rfl ?_
        walk_at "w"
        refine ⟨B, p.1, p.2, rfl, by omega, by omega, by omega, _, rfl, ?_⟩
        exact ⟨joinB B p.1 p.2, _, _, Sys.run_step hr hd hp, by rw [joinB_len]; exact hB, rfl⟩
    · rintro ρ' ⟨B, x5, x6, hr, hB, rfl⟩
      rw [List.take_length] at hr
      walk_at "w"
      refine rd_ixL (bl_at (by rw [hB]; exact ha.lt hw)) ?_
      walk_at "w"
      refine rd_ixL (bl_at (by rw [hB]; exact hb.lt hw)) ?_
      refine rd_eqI ?_
      rw [dec_cast, ← Sys.acc_some (by omega) hr]
      exact k
  | _ =>
    refine ws_seq (ws_ifT (wt_orT ?_))
    walk_at "w"
    refine ⟨_, rfl, rfl, rfl, ?_⟩
    walk_at "w"
    exact k
end
end K47

set_option Elab.async false
set_option linter.all false
set_option maxRecDepth 100000
set_option maxHeartbeats 4000000
namespace K47
open PySem L2
local macro_rules | `(tactic| walk_at "w1") => `(tactic| first
  | with_reducible refine ws_seq ?_
  | with_reducible refine ws_ret ?_
  | with_reducible refine ws_asg ?_
  | with_reducible refine ws_drop ?_
  | with_reducible refine ws_if ?_
  | with_reducible refine ws_next ?_
  | ((with_reducible refine' we_var ?hv ?_); (case hv => exact rfl))
  | with_reducible refine we_int ?_
  | with_reducible refine we_bl ?_
  | with_reducible refine we_non ?_
  | with_reducible refine we_str ?_
  | with_reducible refine we_callP ?_
  | with_reducible refine we_isi (by decide) ?_
  | with_reducible refine we_cb ?_
  | with_reducible refine we_op ?_
  | with_reducible refine we_un ?_
  | with_reducible refine we_chain ?_
  | with_reducible refine we_andV ?_
  | with_reducible refine we_orV ?_
  | with_reducible refine we_notV ?_
  | with_reducible refine we_if ?_
  | with_reducible refine we_tup ?_
  | with_reducible refine we_lst ?_
  | with_reducible refine wa_nil ?_
  | with_reducible refine wa_cons ?_
  | with_reducible refine wt_test ?_
  | with_reducible refine wt_B ?_
  | with_reducible refine wt_not ?_
  | with_reducible refine wt_and ?_
  | with_reducible refine wt_or ?_
  | with_reducible refine wt_yes ?_
  | with_reducible refine wt_truK ?_)
local macro_rules | `(tactic| walk_at "w") => `(tactic| repeat walk_at "w1")
theorem rd_int_cases {s : Sys} (w : s.Wf) (i : Int) : (∃ x : Nat, Rc s x ∧ i = (x : Int) ∧ s.rd (.int i) = some x ∧ i ∈ s.reach.map fun x : Nat => (x : Int)) ∨ (s.rd (.int i) = none ∧ i ∉ s.reach.map fun x : Nat => (x : Int)) := by
  rw [Sys.rd_int]
  by_cases h : 0 ≤ i ∧ Rc s i.toNat
  · have e : i = (i.toNat : Int) := by omega
    refine .inl ⟨i.toNat, h.2, e, if_pos h, ?_⟩
    rw [e]
    exact mem_cast.mpr (w.mem_reach.mpr h.2)
  · refine .inr ⟨if_neg h, fun z => h ?_⟩
    obtain ⟨y, hy, e⟩ := List.mem_map.mp z
    subst e
    exact ⟨by omega, by rw [Int.toNat_natCast]; exact w.mem_reach.mp hy⟩
theorem sq_one (s : Sys) (c : D) : (s.sq (.tup [c])).isSome = (s.cm c).isSome := by
  rw [Sys.sq_tup, if_pos (by simp)]
  have e : s.cms [c] = (match s.cm c, s.cms [] with | some c, some q => some (c :: q) | _, _ => none) := rfl
  rw [e]
  cases s.cm c <;> rfl
theorem isI_cm {s : Sys} {d : D} (h : isI d = false) : s.cm d = none := by
  cases d with
  | int i => cases h
  | _ => rfl
theorem isI_rd {s : Sys} {d : D} (h : isI d = false) : s.rd d = none := by
  cases d with
  | int i => cases h
  | _ => rfl
theorem isI_int {d : D} (h : isI d = true) : ∃ i, d = .int i := by
  cases d with
  | int i => exact ⟨i, rfl⟩
  | _ => cases h
theorem tailP_len (s : Sys) (B : List Nat) (x : Str) : ∀ ds : List D, ds.length ≠ 3 → ds.length ≠ 4 → s.tailP B x ds = none
  | [], _, _ => rfl
  | [_], _, _ => rfl
  | [_, _], _, _ => rfl
  | [_, _, _], h, _ => absurd rfl h
  | [_, _, _, _], _, h => absurd rfl h
  | _ :: _ :: _ :: _ :: _ :: _, _, _ => rfl
theorem tailP_3 (s : Sys) (B : List Nat) (x : Str) (a b c : D) : s.tailP B x [a, b, c] = if x = sC then s.cmdP B a b c else none := rfl
theorem tailP_4 (s : Sys) (B : List Nat) (x : Str) (a c q r : D) : s.tailP B x [a, c, q, r] = if x = sA then s.actP B a c q r else none := rfl
theorem cmdP_na {s : Sys} {B : List Nat} {a b c : D} (h : s.rd a = none) : s.cmdP B a b c = none := by
  unfold Sys.cmdP
  rw [h]
theorem cmdP_nb {s : Sys} {B : List Nat} {a b c : D} (h : s.rd b = none) : s.cmdP B a b c = none := by
  unfold Sys.cmdP
  rw [h]
  cases s.rd a <;> rfl
theorem cmdP_nc {s : Sys} {B : List Nat} {a b c : D} (h : s.cm c = none) : s.cmdP B a b c = none := by
  unfold Sys.cmdP
  rw [h]
  cases s.rd a <;> cases s.rd b <;> rfl
theorem cmdP_eq {s : Sys} {B : List Nat} {a b c : D} {x y m : Nat} (h1 : s.rd a = some x) (h2 : s.rd b = some y) (h3 : s.cm c = some m) : s.cmdP B a b c = if bl B x = bl B y then some (s.nx x m, s.nx y m) else none := by
  unfold Sys.cmdP
  rw [h1, h2, h3]
theorem actP_na {s : Sys} {B : List Nat} {a c q r : D} (h : s.rd a = none) : s.actP B a c q r = none := by
  unfold Sys.actP
  rw [h]
theorem actP_nc {s : Sys} {B : List Nat} {a c q r : D} (h : s.cm c = none) : s.actP B a c q r = none := by
  unfold Sys.actP
  rw [h]
  cases s.rd a <;> rfl
theorem actP_nq {s : Sys} {B : List Nat} {a c q r : D} (h : s.sq q = none) : s.actP B a c q r = none := by
  unfold Sys.actP
  rw [h]
  cases s.rd a <;> cases s.cm c <;> rfl
theorem actP_nr {s : Sys} {B : List Nat} {a c q r : D} (h : s.sq r = none) : s.actP B a c q r = none := by
  unfold Sys.actP
  rw [h]
  cases s.rd a <;> cases s.cm c <;> cases s.sq q <;> rfl
theorem actP_eq {s : Sys} {B : List Nat} {a c q r : D} {x m : Nat} {u v : List Nat} (h1 : s.rd a = some x) (h2 : s.cm c = some m) (h3 : s.sq q = some u) (h4 : s.sq r = some v) : s.actP B a c q r = if bl B (s.led (s.nx x m) u) = bl B (s.led (s.nx x m) v) then some (s.led x u, s.led x v) else none := by
  unfold Sys.actP
  rw [h1, h2, h3, h4]
theorem at1 {e0 e : D} {es : List D} : atI (e0 :: e :: es) 1 = some e := show atI _ ((1 : Nat) : Int) = _ from atI_nat rfl
theorem at2 {e0 e1 e : D} {es : List D} : atI (e0 :: e1 :: e :: es) 2 = some e := show atI _ ((2 : Nat) : Int) = _ from atI_nat rfl
theorem pairOf_len {s : Sys} {B : List Nat} : ∀ {ds : List D}, ds.length ≠ 4 → ds.length ≠ 5 → s.pairOf B (.tup ds) = none
  | [], _, _ => rfl
  | .str x :: es, h1, h2 => tailP_len s B x es (fun z => h1 (by rw [List.length_cons, z])) (fun z => h2 (by rw [List.length_cons, z]))
  | .non :: _, _, _ => rfl
  | .bl _ :: _, _, _ => rfl
  | .int _ :: _, _, _ => rfl
  | .tup _ :: _, _, _ => rfl
  | .lst _ :: _, _, _ => rfl
theorem tailP_na {s : Sys} {B : List Nat} {x : Str} {a : D} (h : s.rd a = none) : ∀ es : List D, s.tailP B x (a :: es) = none
  | [] => rfl
  | [_] => rfl
  | [_, _] => by rw [tailP_3, cmdP_na h, ite_self]
  | [_, _, _] => by rw [tailP_4, actP_na h, ite_self]
  | _ :: _ :: _ :: _ :: _ => rfl
theorem tailP_nc {s : Sys} {B : List Nat} {x : Str} {a c : D} (h : s.rd c = none) (h' : s.cm c = none) : ∀ es : List D, s.tailP B x (a :: c :: es) = none
  | [] => rfl
  | [_] => by rw [tailP_3, cmdP_nb h, ite_self]
  | [_, _] => by rw [tailP_4, actP_nc h', ite_self]
  | _ :: _ :: _ :: _ => rfl
theorem four_five {ds : List D} (h : ds.length = 4 ∨ ds.length = 5) : ∃ v a c es, ds = v :: a :: c :: es ∧ (es.length = 1 ∨ es.length = 2) := by
  match ds, h with
  | [v, a, c, e], _ => exact ⟨v, a, c, [e], rfl, .inl rfl⟩
  | [v, a, c, e, f], _ => exact ⟨v, a, c, [e, f], rfl, .inr rfl⟩
theorem len1 {ds : List D} (h : ds.length = 1) : ∃ a, ds = [a] := by
  match ds, h with
  | [a], _ => exact ⟨a, rfl⟩
theorem len2 {ds : List D} (h : ds.length = 2) : ∃ a b, ds = [a, b] := by
  match ds, h with
  | [a, b], _ => exact ⟨a, b, rfl⟩

section
variable {P : Program} {w : World} {K : PySem.W.Frag} {mg : Str → Option Value} {base : Heap}
theorem sc_law_is_sequence : FnScope ["_law_system_here", "_law_value", "_law_one"] ["_law_system_here", "_law_value"] (defScope s_law_is_sequence) := ⟨rfl, rfl, rfl, by decide +kernel, rfl, by decide +kernel, by decide +kernel⟩
def T_law_is_sequence : List D → (Cell → Prop) → Prop := fun ds Q => ∃ (s : Sys) (d : D), ds = [sysD s, d] ∧ Q (.imm (.bl (s.sq d).isSome))
theorem len_law_is_sequence : ∀ ds Q, T_law_is_sequence ds Q → ds.length = 2 := fun ds Q ⟨s, d, h, _⟩ => by rw [h]; rfl
theorem ok_law_is_sequence {f : Addr} {fd : FuncData} (T : Txt K mg) (F : FnP K "_law_is_sequence" s_law_is_sequence f fd) {f_law_is_integer : Addr} {fd_law_is_integer : FuncData} (c_law_is_integer : Cal P w K mg base "_law_is_integer" 1 ["_law_actual"] (spP T_law_is_integer) f_law_is_integer fd_law_is_integer) : FnOk P w K mg base CX0 2 f fd ["_law_system_here", "_law_value"] (spP T_law_is_sequence) := by
  refine F.ok sc_law_is_sequence (fun vs H Q E h => len_P len_law_is_sequence h) (fun cdv A outer s H vs Q E hr h => ?_)
  have hu := hu_of hr
  refine ⟨_, PSs.nox (pss_cons
      (ps_if (PW.pt (pw_or (pt_not (pt_val (pe_callB (isiK K) (by rfl) T.b_isinstance bt_isinstance (pa_cons (pv 1) (pa_cons (pe_bltn (v := .ty "tuple") (by rfl) T.b_tuple bt_tuple rfl) pa_nil))))) (pw_or1 (pt_cmpR op_gt (pe_callB (lenK K) (by rfl) T.b_len bt_len (pa_cons (pv 1) pa_nil)) pe_int (nomark _))))) (pss_one
       (ps_ret pe_bl)) pss_nil)
      (pss_one
      (ps_ret (pe_callB (allK K rfl) (by rfl) T.b_all bt_all (pa_cons (pe_lc (own := [("_law_one", 2)]) (g := gName 2) rfl sc_law_is_sequence.nd (piTK K (pv 1)) (blkOk_by (own := [("_law_one", 2)]) (N := ["_law_system_here", "_law_value", "_law_one"]) (sc := defScope s_law_is_sequence) (by decide +kernel)) (fun _ _ _ _ _ => (pg_name (i := 2) sc_law_is_sequence.nd rfl (by first | exact Or.inl rfl | exact Or.inr rfl))) (fun _ _ _ _ _ => pts_nil) (fun _ _ _ _ _ => (pe_and (pe_call c_law_is_integer.G (hr.mono (by decide)) rfl c_law_is_integer.m c_law_is_integer.kp c_law_is_integer.b .nil pass0 (pa_cons (pv 2) pa_nil)) (pe_one (pe_chain op_le op_lt pe_int (pv 2) (pe_callB (lenK K) (by rfl) T.b_len bt_len (pa_cons (pe_ix (ixK K) (pv 0) pe_int (fun _ _ => rfl)) pa_nil))))))) pa_nil))))), ?_⟩
  refine body_P h fun ds Q hT => ?_
  obtain ⟨s, d, rfl, k⟩ := hT
  cases d with
  | tup ds =>
    refine ws_seq (ws_if (wt_orF ?_))
    walk_at "w"
    refine ⟨_, rfl, rfl, ?_⟩
    walk_at "w"
    refine rc_len (.inl rfl) ?_
    walk_at "w"
    refine rd_B0 ⟨_, rfl, fun hb => ?_, fun hb => ?_⟩
    · have hb := of_decide_eq_true hb
      rw [Sys.sq_tup, if_neg (by omega)] at k
      walk_at "w"
      exact k
    · have hb := of_decide_eq_false hb
      walk_at "w"
      refine we_lc (wi_tup (we_var (d := .tup ds) rfl ⟨_, rfl, fun i acc ρ' => acc = ((ds.take i).map fun d => isW d 0 ((s.k : Int) - 1)).map D.bl ∧ ρ' = [some (.imm (sysD s)), some (.imm (.tup ds)), none], by omega, ⟨rfl, rfl⟩, ?_, ?_⟩))
      · rintro i d acc ρ' hd ⟨rfl, rfl⟩
        refine wgv_name (by decide) ?_
        refine wt_yes ⟨fun _ => ?_, fun z => by cases z⟩
        have fin : ∀ bb, bb = isW d 0 ((s.k : Int) - 1) → ((ds.take i).map fun d => isW d 0 ((s.k : Int) - 1)).map D.bl ++ [D.bl bb] = ((ds.take (i + 1)).map fun d => isW d 0 ((s.k : Int) - 1)).map D.bl := fun bb e => by
          rw [take_snoc hd, List.map_append, List.map_append, e]
          rfl
        walk_at "w"
        refine ⟨d, rfl, _, rfl, _, rfl, fun hi => ?_, fun hi => ?_⟩
        · obtain ⟨n, rfl⟩ := isI_int hi
          walk_at "w"
          refine rd_B0 ⟨_, rfl, fun h0 => ?_, fun h0 => ?_⟩
          · have h0 := of_decide_eq_true h0
            walk_at "w"
            refine rd_ixT (d := .tup (tabsD s.cmds)) rfl ?_
            walk_at "w"
            refine rc_len (.inl rfl) ?_
            refine rd_B0 ⟨fin _ ?_, rfl⟩
            rw [isW_int, decide_eq_true h0, tabsD_length, Bool.true_and]
            have : s.k = s.cmds.length := rfl
            by_cases z : n < (s.cmds.length : Int)
            · rw [decide_eq_true z, decide_eq_true (by omega)]
            · rw [decide_eq_false z, decide_eq_false (by omega)]
          · have h0 := of_decide_eq_false h0
            refine ⟨fin _ ?_, rfl⟩
            rw [isW_int, decide_eq_false h0]; rfl
        · refine ⟨fin _ ?_, rfl⟩
          cases d with
          | int i => cases hi
          | _ => rfl
      · rintro acc ρ' ⟨rfl, rfl⟩
        rw [List.take_length]
        walk_at "w"
        refine rc_all rfl ?_
        rw [← cms_all, ← show s.sq (.tup ds) = s.cms ds by rw [Sys.sq_tup, if_pos (by omega)]]
        exact k
  | _ =>
    refine ws_seq (ws_ifT (wt_orT ?_))
    walk_at "w"
    refine ⟨_, rfl, rfl, rfl, ?_⟩
    walk_at "w"
    exact k
theorem sc_law_pair : FnScope ["_law_system_here", "_law_blocks", "_law_value", "_law_reachable_here", "_law_after", "_law_row"] ["_law_system_here", "_law_blocks", "_law_value"] (defScope s_law_pair) := ⟨rfl, rfl, rfl, by decide +kernel, rfl, by decide +kernel, by decide +kernel⟩
def T_law_pair : List D → (Cell → Prop) → Prop := fun ds Q => ∃ (s : Sys) (B : List Nat) (d : D), ds = [sysD s, .lst (natD B), d] ∧ s.Wf ∧ s.n ≤ 4 ∧ B.length = s.n ∧ Q (.imm (optD (s.pairOf B d)))
theorem len_law_pair : ∀ ds Q, T_law_pair ds Q → ds.length = 3 := fun ds Q ⟨s, B, x, h, _⟩ => by rw [h]; rfl
theorem ok_law_pair {f : Addr} {fd : FuncData} (T : Txt K mg) (F : FnP K "_law_pair" s_law_pair f fd) {f_law_reachable : Addr} {fd_law_reachable : FuncData} (c_law_reachable : Cal P w K mg base "_law_reachable" 2 ["_law_system_here"] (spP T_law_reachable) f_law_reachable fd_law_reachable) {f_law_is_integer : Addr} {fd_law_is_integer : FuncData} (c_law_is_integer : Cal P w K mg base "_law_is_integer" 1 ["_law_actual"] (spP T_law_is_integer) f_law_is_integer fd_law_is_integer) {f_law_is_sequence : Addr} {fd_law_is_sequence : FuncData} (c_law_is_sequence : Cal P w K mg base "_law_is_sequence" 2 ["_law_system_here", "_law_value"] (spP T_law_is_sequence) f_law_is_sequence fd_law_is_sequence) {f_law_led : Addr} {fd_law_led : FuncData} (c_law_led : Cal P w K mg base "_law_led" 1 ["_law_system_here", "_law_state", "_law_sequence_here"] (spP T_law_led) f_law_led fd_law_led) : FnOk P w K mg base CX0 3 f fd ["_law_system_here", "_law_blocks", "_law_value"] (spP T_law_pair) := by
  refine F.ok sc_law_pair (fun vs H Q E h => len_P len_law_pair h) (fun cdv A outer s H vs Q E hr h => ?_)
  have hu := hu_of hr
  refine ⟨_, PSs.nox (pss_cons
      (ps_if (PW.pt (pw_or (pt_not (pt_val (pe_callB (isiK K) (by rfl) T.b_isinstance bt_isinstance (pa_cons (pv 2) (pa_cons (pe_bltn (v := .ty "tuple") (by rfl) T.b_tuple bt_tuple rfl) pa_nil))))) (pw_or (pt_cmpR (notInK K) (pe_callB (lenK K) (by rfl) T.b_len bt_len (pa_cons (pv 2) pa_nil)) (pe_lst (pa_cons pe_int (pa_cons pe_int pa_nil))) (by with_unfolding_all rfl)) (pw_or1 (pt_not (pt_val (pe_callB (isiK K) (by rfl) T.b_isinstance bt_isinstance (pa_cons (pe_ix (ixK K) (pv 2) pe_int (fun _ _ => rfl)) (pa_cons (pe_bltn (v := .ty "str") (by rfl) T.b_str bt_str rfl) pa_nil))))))))) (pss_one
       (ps_ret pe_non)) pss_nil)
      (pss_cons
      (ps_set (i := 3) sc_law_pair.nd rfl (by first | exact Or.inl rfl | exact Or.inr rfl) (pe_call c_law_reachable.G (hr.mono (by decide)) rfl c_law_reachable.m c_law_reachable.kp c_law_reachable.b .nil pass0 (pa_cons (pv 0) pa_nil)))
      (pss_cons
      (ps_if (PW.pt (pw_or (pt_not (pt_val (pe_call c_law_is_integer.G (hr.mono (by decide)) rfl c_law_is_integer.m c_law_is_integer.kp c_law_is_integer.b .nil pass0 (pa_cons (pe_ix (ixK K) (pv 2) pe_int (fun _ _ => rfl)) pa_nil)))) (pw_or (pt_cmpR (notInK K) (pe_ix (ixK K) (pv 2) pe_int (fun _ _ => rfl)) (pv 3) (by with_unfolding_all rfl)) (pw_or1 (pt_not (pt_val (pe_call c_law_is_integer.G (hr.mono (by decide)) rfl c_law_is_integer.m c_law_is_integer.kp c_law_is_integer.b .nil pass0 (pa_cons (pe_ix (ixK K) (pv 2) pe_int (fun _ _ => rfl)) pa_nil)))))))) (pss_one
       (ps_ret pe_non)) pss_nil)
      (pss_cons
      (ps_if (PW.pt (pw_and (pt_cmpR op_eq (pe_ix (ixK K) (pv 2) pe_int (fun _ _ => rfl)) pe_str (nomark _)) (pw_and1 (pt_cmpR op_eq (pe_callB (lenK K) (by rfl) T.b_len bt_len (pa_cons (pv 2) pa_nil)) pe_int (nomark _))))) (pss_cons
       (ps_if (PW.pt (pw_or (pt_cmpR (notInK K) (pe_ix (ixK K) (pv 2) pe_int (fun _ _ => rfl)) (pv 3) (by with_unfolding_all rfl)) (pw_or (pt_cmpR op_ne (pe_ix (ixK K) (pv 1) (pe_ix (ixK K) (pv 2) pe_int (fun _ _ => rfl)) (fun _ _ => rfl)) (pe_ix (ixK K) (pv 1) (pe_ix (ixK K) (pv 2) pe_int (fun _ _ => rfl)) (fun _ _ => rfl)) (nomark _)) (pw_or1 (pt_not (pt_val (pe_call c_law_is_sequence.G (hr.mono (by decide)) rfl c_law_is_sequence.m c_law_is_sequence.kp c_law_is_sequence.b .nil pass0 (pa_cons (pv 0) (pa_cons (pe_tup (pa_cons (pe_ix (ixK K) (pv 2) pe_int (fun _ _ => rfl)) pa_nil)) pa_nil))))))))) (pss_one
        (ps_ret pe_non)) pss_nil)
       (pss_one
       (ps_ret (pe_tup (pa_cons (pe_ix (ixK K) (pe_ix (ixK K) (pe_ix (ixK K) (pv 0) pe_int (fun _ _ => rfl)) (pe_ix (ixK K) (pv 2) pe_int (fun _ _ => rfl)) (fun _ _ => rfl)) (pe_ix (ixK K) (pv 2) pe_int (fun _ _ => rfl)) (fun _ _ => rfl)) (pa_cons (pe_ix (ixK K) (pe_ix (ixK K) (pe_ix (ixK K) (pv 0) pe_int (fun _ _ => rfl)) (pe_ix (ixK K) (pv 2) pe_int (fun _ _ => rfl)) (fun _ _ => rfl)) (pe_ix (ixK K) (pv 2) pe_int (fun _ _ => rfl)) (fun _ _ => rfl)) pa_nil)))))) pss_nil)
      (pss_cons
      (ps_if (PW.pt (pw_or (pt_cmpR op_ne (pe_ix (ixK K) (pv 2) pe_int (fun _ _ => rfl)) pe_str (nomark _)) (pw_or (pt_cmpR op_ne (pe_callB (lenK K) (by rfl) T.b_len bt_len (pa_cons (pv 2) pa_nil)) pe_int (nomark _)) (pw_or1 (pt_not (pt_val (pe_callB (allK K rfl) (by rfl) T.b_all bt_all (pa_cons (pe_lc (own := [("_law_row", 5)]) (g := gName 5) rfl sc_law_pair.nd (piLK K (pe_lst (pa_cons (pe_tup (pa_cons (pe_ix (ixK K) (pv 2) pe_int (fun _ _ => rfl)) pa_nil)) (pa_cons (pe_ix (ixK K) (pv 2) pe_int (fun _ _ => rfl)) (pa_cons (pe_ix (ixK K) (pv 2) pe_int (fun _ _ => rfl)) pa_nil))))) (blkOk_by (own := [("_law_row", 5)]) (N := ["_law_system_here", "_law_blocks", "_law_value", "_law_reachable_here", "_law_after", "_law_row"]) (sc := defScope s_law_pair) (by decide +kernel)) (fun _ _ _ _ _ => (pg_name (i := 5) sc_law_pair.nd rfl (by first | exact Or.inl rfl | exact Or.inr rfl))) (fun _ _ _ _ _ => pts_nil) (fun _ _ _ _ _ => (pe_call c_law_is_sequence.G (hr.mono (by decide)) rfl c_law_is_sequence.m c_law_is_sequence.kp c_law_is_sequence.b .nil pass0 (pa_cons (pv 0) (pa_cons (pv 5) pa_nil))))) pa_nil)))))))) (pss_one
       (ps_ret pe_non)) pss_nil)
      (pss_cons
      (ps_set (i := 4) sc_law_pair.nd rfl (by first | exact Or.inl rfl | exact Or.inr rfl) (pe_ix (ixK K) (pe_ix (ixK K) (pe_ix (ixK K) (pv 0) pe_int (fun _ _ => rfl)) (pe_ix (ixK K) (pv 2) pe_int (fun _ _ => rfl)) (fun _ _ => rfl)) (pe_ix (ixK K) (pv 2) pe_int (fun _ _ => rfl)) (fun _ _ => rfl)))
      (pss_cons
      (ps_if (pt_cmpR op_ne (pe_ix (ixK K) (pv 1) (pe_call c_law_led.G (hr.mono (by decide)) rfl c_law_led.m c_law_led.kp c_law_led.b .nil pass0 (pa_cons (pv 0) (pa_cons (pv 4) (pa_cons (pe_ix (ixK K) (pv 2) pe_int (fun _ _ => rfl)) pa_nil)))) (fun _ _ => rfl)) (pe_ix (ixK K) (pv 1) (pe_call c_law_led.G (hr.mono (by decide)) rfl c_law_led.m c_law_led.kp c_law_led.b .nil pass0 (pa_cons (pv 0) (pa_cons (pv 4) (pa_cons (pe_ix (ixK K) (pv 2) pe_int (fun _ _ => rfl)) pa_nil)))) (fun _ _ => rfl)) (nomark _)) (pss_one
       (ps_ret pe_non)) pss_nil)
      (pss_one
      (ps_ret (pe_tup (pa_cons (pe_call c_law_led.G (hr.mono (by decide)) rfl c_law_led.m c_law_led.kp c_law_led.b .nil pass0 (pa_cons (pv 0) (pa_cons (pe_ix (ixK K) (pv 2) pe_int (fun _ _ => rfl)) (pa_cons (pe_ix (ixK K) (pv 2) pe_int (fun _ _ => rfl)) pa_nil)))) (pa_cons (pe_call c_law_led.G (hr.mono (by decide)) rfl c_law_led.m c_law_led.kp c_law_led.b .nil pass0 (pa_cons (pv 0) (pa_cons (pe_ix (ixK K) (pv 2) pe_int (fun _ _ => rfl)) (pa_cons (pe_ix (ixK K) (pv 2) pe_int (fun _ _ => rfl)) pa_nil)))) pa_nil)))))))))))), ?_⟩
  refine body_P h fun ds Q hT => ?_
  obtain ⟨s, B, d, rfl, hw, hn4, hB, k⟩ := hT
  cases d with
  | tup vs =>
    by_cases hl : vs.length = 4 ∨ vs.length = 5
    case neg =>
      rw [pairOf_len (fun z => hl (.inl z)) (fun z => hl (.inr z))] at k
      refine ws_seq (ws_ifT (wt_orF ?_))
      walk_at "w"
      refine ⟨_, rfl, rfl, wt_orT ?_⟩
      walk_at "w"
      refine rc_len (.inl rfl) ?_
      walk_at "w"
      refine ⟨by simp, rd_notIn (ns := [4, 5]) (.inr rfl) ⟨_, rfl, ?_, rfl, ?_⟩⟩
      · rw [decide_eq_false]
        · rfl
        · intro z
          have z : ((vs.length : Nat) : Int) ∈ [4, 5] := z
          simp at z
          omega
      walk_at "w"
      exact k
    obtain ⟨v, a, c, es, rfl, hes⟩ := four_five hl
    refine ws_seq (ws_if (wt_orF ?_))
    walk_at "w"
    refine ⟨_, rfl, rfl, wt_orF ?_⟩
    walk_at "w"
    refine rc_len (.inl rfl) ?_
    walk_at "w"
    refine ⟨by simp, rd_notIn (ns := [4, 5]) (.inr rfl) ⟨_, rfl, ?_, ?_⟩⟩
    · rw [decide_eq_true]
      · rfl
      · show (((v :: a :: c :: es).length : Nat) : Int) ∈ [4, 5]
        simp
        omega
    walk_at "w"
    refine rd_ixT (d := v) at0 ?_
    walk_at "w"
    obtain ⟨x, rfl⟩ | hv : (∃ x, v = .str x) ∨ (v.isa "str" = false ∧ s.pairOf B (.tup (v :: a :: c :: es)) = none) := by
      cases v with
      | str x => exact .inl ⟨x, rfl⟩
      | _ => exact .inr ⟨rfl, rfl⟩
    case inr =>
      rw [hv.1]
      rw [hv.2] at k
      refine ⟨_, rfl, (fun _ => ?_), fun z => by cases z⟩
      walk_at "w"
      exact k
    refine ⟨_, rfl, (fun z => by cases z), fun _ => ?_⟩
    replace k : Q (.imm (optD (s.tailP B x (a :: c :: es)))) := k
    walk_at "w"
    refine ⟨s, rfl, hw, hn4, _, rfl, ?_⟩
    have hlr : (D.lst (natD s.reach)) = .tup ((s.reach.map fun x : Nat => (x : Int)).map .int) ∨ (D.lst (natD s.reach)) = .lst ((s.reach.map fun x : Nat => (x : Int)).map .int) := .inr (by rw [natD_ints])
    refine ws_seq (ws_if ?_)
    walk_at "w"
    refine rd_ixT (d := a) at1 ?_
    walk_at "w"
    refine ⟨a, rfl, _, rfl, _, rfl, ?_⟩
    cases hia : isI a with
    | false =>
      rw [tailP_na (isI_rd hia)] at k
      refine ⟨fun _ => ⟨fun _ => ?_, fun z => by cases z⟩, fun z => by cases z⟩
      walk_at "w"
      exact k
    | true =>
    obtain ⟨i, rfl⟩ := isI_int hia
    refine ⟨(fun z => by cases z), fun _ => ?_⟩
    walk_at "w"
    refine rd_ixT (d := .int i) at1 ?_
    walk_at "w"
    refine rd_notIn hlr ⟨_, rfl, ?_⟩
    rcases rd_int_cases hw i with ⟨y, hy, rfl, r1, r2⟩ | ⟨r1, r2⟩
    case inr =>
      rw [decide_eq_false r2]
      rw [tailP_na r1] at k
      refine ⟨fun _ => ⟨fun _ => ?_, fun z => by cases z⟩, fun z => by cases z⟩
      walk_at "w"
      exact k
    rw [decide_eq_true r2]
    refine ⟨(fun z => by cases z), fun _ => ?_⟩
    walk_at "w"
    refine rd_ixT (d := c) at2 ?_
    walk_at "w"
    refine ⟨c, rfl, _, rfl, _, rfl, ?_⟩
    cases hic : isI c with
    | false =>
      rw [tailP_nc (isI_rd hic) (isI_cm hic)] at k
      refine ⟨fun _ => ?_, fun z => by cases z⟩
      walk_at "w"
      exact k
    | true =>
    obtain ⟨i2, rfl⟩ := isI_int hic
    refine ⟨(fun z => by cases z), fun _ => ws_next ?_⟩
    have hyn := hy.lt hw
    rcases hes with hes | hes
    · obtain ⟨m, rfl⟩ := len1 hes
      rw [tailP_3] at k
      by_cases hx : x = sC
      case neg =>
        rw [if_neg hx] at k
        refine ws_seq (ws_ifF (wt_andF ?_))
        walk_at "w"
        refine rd_ixT (d := .str x) at0 ?_
        walk_at "w"
        refine rd_eqS ⟨_, rfl, decide_eq_false hx, rfl, ?_⟩
        refine ws_next (ws_seq (ws_ifT (wt_or ?_)))
        walk_at "w"
        refine rd_ixT (d := .str x) at0 ?_
        walk_at "w"
        refine rd_neS ⟨_, rfl, (fun _ => ⟨rfl, ?_⟩), fun _ => wt_orT ?_⟩
        · walk_at "w"
          exact k
        · walk_at "w"
          refine rc_len (.inl rfl) ?_
          walk_at "w"
          refine rd_neI ⟨_, rfl, rfl, rfl, ?_⟩
          walk_at "w"
          exact k
      rw [if_pos hx] at k
      refine ws_seq (ws_ifT (wt_andT ?_))
      walk_at "w"
      refine rd_ixT (d := .str x) at0 ?_
      walk_at "w"
      refine rd_eqS ⟨_, rfl, decide_eq_true hx, ?_⟩
      walk_at "w"
      refine rc_len (.inl rfl) ?_
      walk_at "w"
      refine rd_eqI ⟨_, rfl, rfl, ?_⟩
      refine ws_seq (ws_if ?_)
      walk_at "w"
      refine rd_ixT (d := .int i2) at2 ?_
      walk_at "w"
      refine rd_notIn hlr ⟨_, rfl, ?_⟩
      rcases rd_int_cases hw i2 with ⟨z, hz, rfl, r3, r4⟩ | ⟨r3, r4⟩
      case inr =>
        rw [decide_eq_false r4]
        rw [cmdP_nb r3] at k
        refine ⟨fun _ => ⟨fun _ => ?_, fun z => by cases z⟩, fun z => by cases z⟩
        walk_at "w"
        exact k
      have hzn := hz.lt hw
      rw [decide_eq_true r4]
      refine ⟨(fun z => by cases z), fun _ => ?_⟩
      walk_at "w"
      refine rd_ixT (d := .int (y : Int)) at1 ?_
      refine rd_ixL (bl_at (by omega)) ?_
      walk_at "w"
      refine rd_ixT (d := .int (z : Int)) at2 ?_
      refine rd_ixL (bl_at (by omega)) ?_
      refine rd_neI ⟨_, rfl, fun hb => ?_, fun hb => ?_⟩
      · have he : bl B y ≠ bl B z := fun e => by rw [e, decide_eq_true rfl] at hb; cases hb
        have k : Q (.imm .non) := by
          cases h5 : s.cm m with
          | none => rw [cmdP_nc h5] at k; exact k
          | some mm => rw [cmdP_eq r1 r3 h5, if_neg he] at k; exact k
        refine ⟨fun _ => ?_, fun z => by cases z⟩
        walk_at "w"
        exact k
      have he : bl B y = bl B z := by
        refine Classical.byContradiction fun e => ?_
        rw [decide_eq_false (fun q => e (by omega))] at hb; cases hb
      walk_at "w"
      refine rd_ixT (d := m) (show atI _ ((3 : Nat) : Int) = _ from atI_nat rfl) ?_
      walk_at "w"
      refine ⟨by simp, ?_⟩
      walk_at "w"
      refine ⟨s, .tup [m], rfl, _, rfl, _, rfl, ?_⟩
      rw [sq_one]
      cases h5 : s.cm m with
      | none =>
        rw [cmdP_nc h5] at k
        refine ⟨fun _ => ?_, fun z => by cases z⟩
        walk_at "w"
        exact k
      | some mm =>
      rw [cmdP_eq r1 r3 h5, if_pos he] at k
      have hmm := Sys.cm_some h5
      have em : m = .int (mm : Int) := by
        rcases cm_cases s m with ⟨c', _, e, h6, _⟩ | ⟨h6, _⟩
        · rw [h5] at h6; cases h6; exact e
        · rw [h5] at h6; cases h6
      subst em
      refine ⟨(fun z => by cases z), fun _ => ?_⟩
      walk_at "w"
      refine rd_ixT (d := .tup (tabsD s.cmds)) rfl ?_
      walk_at "w"
      refine rd_ixT (d := .int (mm : Int)) (show atI _ ((3 : Nat) : Int) = _ from atI_nat rfl) ?_
      refine rd_ixT (tab_at hmm) ?_
      walk_at "w"
      refine rd_ixT (d := .int (y : Int)) at1 ?_
      refine rd_ixT (nx_at hw hyn hmm) ?_
      walk_at "w"
      refine rd_ixT (d := .tup (tabsD s.cmds)) rfl ?_
      walk_at "w"
      refine rd_ixT (d := .int (mm : Int)) (show atI _ ((3 : Nat) : Int) = _ from atI_nat rfl) ?_
      refine rd_ixT (tab_at hmm) ?_
      walk_at "w"
      refine rd_ixT (d := .int (z : Int)) at2 ?_
      refine rd_ixT (nx_at hw hzn hmm) ?_
      walk_at "w"
      exact ⟨by simp, k⟩
    · obtain ⟨q, r, rfl⟩ := len2 hes
      rw [tailP_4] at k
      refine ws_seq (ws_ifF (wt_and ?_))
      walk_at "w"
      refine rd_ixT (d := .str x) at0 ?_
      walk_at "w"
      refine rd_eqS ⟨_, rfl, fun _ => ?_, fun _ => ⟨rfl, ?_⟩⟩
      walk_at "w"
      refine rc_len (.inl rfl) ?_
      walk_at "w"
      refine rd_eqI ⟨_, rfl, rfl, ?_⟩
      all_goals
        refine ws_next ?_
        by_cases hx : x = sA
        case neg =>
          rw [if_neg hx] at k
          refine ws_seq (ws_ifT (wt_orT ?_))
          walk_at "w"
          refine rd_ixT (d := .str x) at0 ?_
          walk_at "w"
          refine rd_neS ⟨_, rfl, (by show (!decide (x = sA)) = true; rw [decide_eq_false hx]; rfl), rfl, ?_⟩
          walk_at "w"
          exact k
        rw [if_pos hx] at k
        refine ws_seq (ws_if (wt_orF ?_))
        walk_at "w"
        refine rd_ixT (d := .str x) at0 ?_
        walk_at "w"
        refine rd_neS ⟨_, rfl, (by show (!decide (x = sA)) = false; rw [decide_eq_true hx]; rfl), wt_orF ?_⟩
        walk_at "w"
        refine rc_len (.inl rfl) ?_
        walk_at "w"
        refine rd_neI ⟨_, rfl, rfl, ?_⟩
        walk_at "w"
        refine we_lc (wi_list ?_)
        walk_at "w"
        refine rd_ixT (d := .int i2) at2 ?_
        walk_at "w"
        refine ⟨by simp, ?_⟩
        walk_at "w"
        refine rd_ixT (d := q) (show atI _ ((3 : Nat) : Int) = _ from atI_nat rfl) ?_
        walk_at "w"
        refine rd_ixT (d := r) (show atI _ ((4 : Nat) : Int) = _ from atI_nat rfl) ?_
        walk_at "w"
        refine ⟨by simp, [.tup [.int i2], q, r], rfl, fun i acc ρ' => acc = (([.tup [.int i2], q, r].take i).map fun d => (s.sq d).isSome).map D.bl ∧ ρ' = [some (.imm (sysD s)), some (.imm (.lst (natD B))), some (.imm (.tup [.str x, .int (y : Int), .int i2, q, r])), some (.imm (.lst (natD s.reach))), none, none], by simp, ⟨rfl, rfl⟩, ?_, ?_⟩
        · rintro i d acc ρ' hd ⟨rfl, rfl⟩
          refine wgv_name (by decide) ?_
          refine wt_yes ⟨fun _ => ?_, fun z => by cases z⟩
          walk_at "w"
          refine ⟨s, d, rfl, _, rfl, ?_, rfl⟩
          rw [take_snoc hd, List.map_append, List.map_append]
          rfl
        rintro acc ρ' ⟨rfl, rfl⟩
        walk_at "w"
        refine rc_all rfl ⟨_, rfl, ?_⟩
        have hb1 : ((([.tup [.int i2], q, r].take [.tup [.int i2], q, r].length).map fun d => (s.sq d).isSome).all id) = ((s.sq (.tup [.int i2])).isSome && ((s.sq q).isSome && ((s.sq r).isSome && true))) := by
          rw [List.take_length]; rfl
        rw [hb1, sq_one]
        cases h0 : s.cm (.int i2) with
        | none =>
          rw [actP_nc h0] at k
          refine ⟨fun _ => ?_, fun z => by cases z⟩
          walk_at "w"
          exact k
        | some m =>
        cases h1 : s.sq q with
        | none =>
          rw [actP_nq h1] at k
          refine ⟨fun _ => ?_, fun z => by cases z⟩
          walk_at "w"
          exact k
        | some u =>
        cases h2 : s.sq r with
        | none =>
          rw [actP_nr h2] at k
          refine ⟨fun _ => ?_, fun z => by cases z⟩
          walk_at "w"
          exact k
        | some v =>
        rw [actP_eq r1 h0 h1 h2] at k
        have hm := Sys.cm_some h0
        have em : i2 = (m : Int) := by
          rcases cm_cases s (.int i2) with ⟨c', _, e, h6, _⟩ | ⟨h6, _⟩
          · rw [h0] at h6; cases h6; cases e; rfl
          · rw [h0] at h6; cases h6
        subst em
        obtain ⟨rfl, hu, _⟩ := sq_nats h1
        obtain ⟨rfl, hv, _⟩ := sq_nats h2
        have hny := hw.nx hyn hm
        refine ⟨(fun z => by cases z), fun _ => ?_⟩
        walk_at "w"
        refine rd_ixT (d := .tup (tabsD s.cmds)) rfl ?_
        walk_at "w"
        refine rd_ixT (d := .int (m : Int)) at2 ?_
        refine rd_ixT (tab_at hm) ?_
        walk_at "w"
        refine rd_ixT (d := .int (y : Int)) at1 ?_
        refine rd_ixT (nx_at hw hyn hm) ?_
        walk_at "w"
        refine rd_ixT (d := .tup (natD u)) (show atI _ ((3 : Nat) : Int) = _ from atI_nat rfl) ?_
        walk_at "w"
        refine ⟨s, s.nx y m, u, rfl, hw, hny, hu, _, rfl, ?_⟩
        refine rd_ixL (bl_at (by rw [hB]; exact hw.led hny hu)) ?_
        walk_at "w"
        refine rd_ixT (d := .tup (natD v)) (show atI _ ((4 : Nat) : Int) = _ from atI_nat rfl) ?_
        walk_at "w"
        refine ⟨s, s.nx y m, v, rfl, hw, hny, hv, _, rfl, ?_⟩
        refine rd_ixL (bl_at (by rw [hB]; exact hw.led hny hv)) ?_
        refine rd_neI ⟨_, rfl, fun hb => ?_, fun hb => ?_⟩
        · rw [if_neg fun e => by rw [e, decide_eq_true rfl] at hb; cases hb] at k
          walk_at "w"
          exact k
        · have he : bl B (s.led (s.nx y m) u) = bl B (s.led (s.nx y m) v) := by
            refine Classical.byContradiction fun e => ?_
            rw [decide_eq_false (fun q => e (by omega))] at hb; cases hb
          rw [if_pos he] at k
          walk_at "w"
          refine rd_ixT (d := .int (y : Int)) at1 ?_
          walk_at "w"
          refine rd_ixT (d := .tup (natD u)) (show atI _ ((3 : Nat) : Int) = _ from atI_nat rfl) ?_
          walk_at "w"
          refine ⟨s, y, u, rfl, hw, hyn, hu, _, rfl, ?_⟩
          walk_at "w"
          refine rd_ixT (d := .int (y : Int)) at1 ?_
          walk_at "w"
          refine rd_ixT (d := .tup (natD v)) (show atI _ ((4 : Nat) : Int) = _ from atI_nat rfl) ?_
          walk_at "w"
          refine ⟨s, y, v, rfl, hw, hyn, hv, _, rfl, ?_⟩
          walk_at "w"
          exact ⟨by simp, k⟩
  | _ =>
    refine ws_seq (ws_ifT (wt_orT ?_))
    walk_at "w"
    refine ⟨_, rfl, rfl, rfl, ?_⟩
    walk_at "w"
    exact k
theorem sc_law_accepted : FnScope ["_law_system_here", "_law_one", "_law_other", "_law_value", "_law_blocks", "_law_item_here", "_law_pair_here", "_law_number"] ["_law_system_here", "_law_one", "_law_other", "_law_value"] (defScope s_law_accepted) := ⟨rfl, rfl, rfl, by decide +kernel, rfl, by decide +kernel, by decide +kernel⟩
def T_law_accepted : List D → (Cell → Prop) → Prop := fun ds Q => ∃ (s : Sys) (a b : Nat) (d : D), ds = [sysD s, .int (a : Int), .int (b : Int), d] ∧ s.Wf ∧ s.n ≤ 4 ∧ Rc s a ∧ Rc s b ∧ Q (.imm (.bl (s.acc a b d)))
theorem len_law_accepted : ∀ ds Q, T_law_accepted ds Q → ds.length = 4 := fun ds Q ⟨s, a, b, d, h, _⟩ => by rw [h]; rfl
theorem ok_law_accepted {f : Addr} {fd : FuncData} (T : Txt K mg) (F : FnP K "_law_accepted" s_law_accepted f fd) {f_law_pair : Addr} {fd_law_pair : FuncData} (c_law_pair : Cal P w K mg base "_law_pair" 3 ["_law_system_here", "_law_blocks", "_law_value"] (spP T_law_pair) f_law_pair fd_law_pair) : FnOk P w K mg base CX0 4 f fd ["_law_system_here", "_law_one", "_law_other", "_law_value"] (spP T_law_accepted) := by
  refine F.ok sc_law_accepted (fun vs H Q E h => len_P len_law_accepted h) (fun cdv A outer s H vs Q E hr h => ?_)
  have hu := hu_of hr
  refine ⟨_, PSs.nox (pss_cons
      (ps_if (PW.pt (pw_or (pt_not (pt_val (pe_callB (isiK K) (by rfl) T.b_isinstance bt_isinstance (pa_cons (pv 3) (pa_cons (pe_bltn (v := .ty "tuple") (by rfl) T.b_tuple bt_tuple rfl) pa_nil))))) (pw_or1 (pt_cmpR op_gt (pe_callB (lenK K) (by rfl) T.b_len bt_len (pa_cons (pv 3) pa_nil)) pe_int (nomark _))))) (pss_one
       (ps_ret pe_bl)) pss_nil)
      (pss_cons
      (ps_set (i := 4) sc_law_accepted.nd rfl (by first | exact Or.inl rfl | exact Or.inr rfl) (pe_listRg rfl rfl T.b_list (prg_1 rfl T.b_range (pe_ix (ixK K) (pv 0) pe_int (fun _ _ => rfl)))))
      (pss_cons
      (ps_for PassesOwn.never rfl (piTK K (pv 3)) (pg_name (i := 5) sc_law_accepted.nd rfl (by first | exact Or.inl rfl | exact Or.inr rfl)) (pss_cons
       (ps_set (i := 6) sc_law_accepted.nd rfl (by first | exact Or.inl rfl | exact Or.inr rfl) (pe_call c_law_pair.G (hr.mono (by decide)) rfl c_law_pair.m c_law_pair.kp c_law_pair.b .nil pass0 (pa_cons (pv 0) (pa_cons (pv 4) (pa_cons (pv 5) pa_nil)))))
       (pss_cons
       (ps_if (pt_cmpR op_isN1 (pv 6) pe_non (nomark _)) (pss_one
        (ps_ret pe_bl)) pss_nil)
       (pss_one
       (ps_set (i := 4) sc_law_accepted.nd rfl (by first | exact Or.inl rfl | exact Or.inr rfl) (pe_lc (own := [("_law_number", 7)]) (g := gName 7) rfl sc_law_accepted.nd (piLK K (pv 4)) (blkOk_by (own := [("_law_number", 7)]) (N := ["_law_system_here", "_law_one", "_law_other", "_law_value", "_law_blocks", "_law_item_here", "_law_pair_here", "_law_number"]) (sc := defScope s_law_accepted) (by decide +kernel)) (fun _ _ _ _ _ => (pg_name (i := 7) sc_law_accepted.nd rfl (by first | exact Or.inl rfl | exact Or.inr rfl))) (fun _ _ _ _ _ => pts_nil) (fun _ _ _ _ _ => (pe_ix (ixK K) (pe_lst (pa_cons (pv 7) (pa_cons (pe_ix (ixK K) (pv 4) (pe_ix (ixK K) (pv 6) pe_int (fun _ _ => rfl)) (fun _ _ => rfl)) pa_nil))) (pe_callTy call_int1 (by rfl) T.b_int bt_int (pa_cons (pe_cmpR op_eq (pv 7) (pe_ix (ixK K) (pv 4) (pe_ix (ixK K) (pv 6) pe_int (fun _ _ => rfl)) (fun _ _ => rfl)) (nomark _)) pa_nil)) (fun _ _ => rfl)))))))))
      (pss_one
      (ps_ret (pe_cmpR op_eq (pe_ix (ixK K) (pv 4) (pv 1) (fun _ _ => rfl)) (pe_ix (ixK K) (pv 4) (pv 2) (fun _ _ => rfl)) (nomark _))))))), ?_⟩
  refine body_P h fun ds Q hT => ?_
  obtain ⟨s, a, b, d, rfl, hw, hn4, ha, hb, k⟩ := hT
  cases d with
  | tup ds =>
    refine ws_seq (ws_if (wt_orF ?_))
    walk_at "w"
    refine ⟨_, rfl, rfl, ?_⟩
    walk_at "w"
    refine rc_len (.inl rfl) ?_
    walk_at "w"
    refine rd_B0 ⟨_, rfl, fun hb' => ?_, fun hb' => ?_⟩
    · have hb' := of_decide_eq_true hb'
      rw [Sys.acc_long (by omega)] at k
      walk_at "w"
      exact k
    have hb' := of_decide_eq_false hb'
    walk_at "w"
    refine we_listRg ?_
    walk_at "w"
    refine rd_ixT (d := .int (s.n : Int)) rfl ?_
    refine ⟨s.n, rfl, by omega, ?_⟩
    refine ws_seq (ws_for (wi_tup (we_var (d := .tup ds) rfl ⟨_, rfl, fun i ρ' => ∃ B x5 x6, s.run (List.range s.n) (ds.take i) = some B ∧ B.length = s.n ∧ ρ' = [some (.imm (sysD s)), some (.imm (.int (a : Int))), some (.imm (.int (b : Int))), some (.imm (.tup ds)), some (.imm (.lst (natD B))), x5, x6, none], ⟨List.range s.n, none, none, rfl, List.length_range, rfl⟩, ?_, ?_⟩)))
    · rintro i d ρ' hd ⟨B, x5, x6, hr, hB, rfl⟩
      refine wg_name ?_
      walk_at "w"
      refine ⟨s, B, d, rfl, hw, hn4, hB, _, rfl, ?_⟩
      walk_at "w"
      cases hp : s.pairOf B d with
      | none =>
        refine rd_isN ⟨_, rfl, (fun _ => ?_), fun z => by cases z⟩
        walk_at "w"
        rw [Sys.acc_none (Sys.run_none hr hd hp)] at k
        exact k
      | some p =>
        obtain ⟨p1, p2⟩ := hw.pairOf_lt hp
        refine rd_isN ⟨_, rfl, (fun z => by cases z), fun _ => ?_⟩
        walk_at "w"
        refine we_lc (wi_list (we_var (d := .lst (natD B)) rfl ⟨_, rfl, fun j acc ρ' => acc = natD ((joinB B p.1 p.2).take j) ∧ ρ' = [some (.imm (sysD s)), some (.imm (.int (a : Int))), some (.imm (.int (b : Int))), some (.imm (.tup ds)), some (.imm (.lst (natD B))), some (.imm d), some (.imm (pD (ip p))), none], ?_, ⟨rfl, rfl⟩, ?_, ?_⟩))
        · rw [natD_length]; omega
        · rintro j d acc ρ' hd ⟨rfl, rfl⟩
          obtain ⟨x, hx, rfl⟩ := natD_at hd
          refine wgv_name (by decide) ?_
          refine wt_yes ⟨fun _ => ?_, fun z => by cases z⟩
          walk_at "w"
          refine rd_ixT (d := .int (p.1 : Int)) rfl ?_
          refine rd_ixL (bl_at (by omega)) ?_
          walk_at "w"
          refine ⟨by simp, ?_⟩
          walk_at "w"
          refine rd_ixT (d := .int (p.2 : Int)) rfl ?_
          refine rd_ixL (bl_at (by omega)) ?_
          refine rd_eqI ?_
          walk_at "w"
          refine rc_intB ?_
          by_cases e : x = bl B p.2
          · rw [decide_eq_true (show (x : Int) = (bl B p.2 : Int) by omega)]
            refine rd_ixL (d := .int (bl B p.1 : Int)) rfl ⟨?_, rfl⟩
            rw [joinB_take hx, if_pos e]
          · rw [decide_eq_false (show ¬ (x : Int) = (bl B p.2 : Int) by omega)]
            refine rd_ixL (d := .int (x : Int)) rfl ⟨?_, rfl⟩
            rw [joinB_take hx, if_neg e]
        · rintro acc ρ' ⟨rfl, rfl⟩
          refine ⟨joinB B p.1 p.2, some (.imm d), some (.imm (pD (ip p))), Sys.run_step hr hd hp, by rw [joinB_len]; exact hB, ?_⟩
          rw [natD_length, ← joinB_len B p.1 p.2, List.take_length]
          rfl
    · rintro ρ' ⟨B, x5, x6, hr, hB, rfl⟩
      rw [List.take_length] at hr
      walk_at "w"
      refine rd_ixL (bl_at (by rw [hB]; exact ha.lt hw)) ?_
      walk_at "w"
      refine rd_ixL (bl_at (by rw [hB]; exact hb.lt hw)) ?_
      refine rd_eqI ?_
      rw [dec_cast, ← Sys.acc_some (by omega) hr]
      exact k
  | _ =>
    refine ws_seq (ws_ifT (wt_orT ?_))
    walk_at "w"
    refine ⟨_, rfl, rfl, rfl, ?_⟩
    walk_at "w"
    exact k
end
end K47

set_option Elab.async false
set_option linter.all false
set_option maxRecDepth 100000
set_option maxHeartbeats 4000000
namespace K47
open PySem L2
theorem len_and {ds : List D} {P : Prop} (h : ds.length ≤ 100000) (p : P) : ds.length ≤ 100000 ∧ P := ⟨h, p⟩
local macro_rules | `(tactic| walk_at "w1") => `(tactic| first
  | with_reducible refine ws_seq ?_
  | with_reducible refine ws_ret ?_
  | with_reducible refine ws_asg ?_
  | with_reducible refine ws_drop ?_
  | with_reducible refine ws_if ?_
  | with_reducible refine ws_next ?_
  | ((with_reducible refine' we_var ?hv ?_); (case hv => exact rfl))
  | with_reducible refine we_int ?_
  | with_reducible refine we_bl ?_
  | with_reducible refine we_non ?_
  | with_reducible refine we_str ?_
  | with_reducible refine we_callP ?_
  | ((with_reducible refine' we_callS ?hv ?_); (case hv => exact rfl))
  | ((with_reducible refine' we_ixOl ?hv ?hw ?_); (case hv => exact rfl); (case hw => exact rfl))
  | ((with_reducible refine' we_lenOl ?hv ?_); (case hv => exact rfl))
  | with_reducible refine we_isi (by decide) ?_
  | with_reducible refine we_cb ?_
  | with_reducible refine we_op ?_
  | with_reducible refine we_un ?_
  | with_reducible refine we_chain ?_
  | with_reducible refine we_andV ?_
  | with_reducible refine we_orV ?_
  | with_reducible refine we_notV ?_
  | with_reducible refine we_if ?_
  | with_reducible refine we_tup ?_
  | with_reducible refine we_lst ?_
  | with_reducible refine wa_nil ?_
  | with_reducible refine wa_cons ?_
  | with_reducible refine wt_test ?_
  | with_reducible refine wt_B ?_
  | with_reducible refine wt_not ?_
  | with_reducible refine wt_and ?_
  | with_reducible refine wt_or ?_
  | with_reducible refine wt_yes ?_
  | with_reducible refine wt_truK ?_
  | ((with_reducible refine' len_and ?hl ?_); (case hl => exact Nat.le_of_ble_eq_true rfl)))
local macro_rules | `(tactic| walk_at "w") => `(tactic| repeat walk_at "w1")
theorem ws_mid {ρ : Rho} {N : Rho → Prop} {R : Cell → Rho → Prop} {t1 t2 : TS} (M : Rho → Prop) (h1 : WS t1 ρ M R) (h2 : ∀ ρ', M ρ' → WS t2 ρ' N R) : WS (tSeq t1 t2) ρ N R := ws_seq (h1.imp h2 fun _ _ h => h)
def stL (p : Addr) (cells : List Int) (cur k : Int) : Cell := .ol p [.lst (cells.map .int), .int cur, .int k]

section
variable {P : Program} {w : World} {K : PySem.W.Frag} {mg : Str → Option Value} {base : Heap}
theorem sc_law_next : FnScope ["_law_stream_here", "_law_many", "_law_k", "_law_cell", "_law_digit"] ["_law_stream_here", "_law_many"] (defScope s_law_next) := ⟨rfl, rfl, rfl, by decide +kernel, rfl, by decide +kernel, by decide +kernel⟩
def T_law_next : List D → (D → Prop) → Prop := fun ds Q => ∃ (m : Nat), ds = [.int (m : Int)] ∧ 1 ≤ m ∧ m ≤ 1000 ∧ ∀ d : Nat, d < m → Q (.int (d : Int))
theorem len_law_next : ∀ ds Q, T_law_next ds Q → ds.length + 1 = 2 := fun ds Q ⟨m, h, _⟩ => by rw [h]; rfl
def lnR (p : Addr) (m : Nat) (cells : List Int) (cur k : Int) (x2 x3 x4 : Option Cell) : Rho := [some (.ol p [.lst (cells.map .int), .int cur, .int k]), some (.imm (.int (m : Int))), x2, x3, x4]
theorem if_abs (i : Int) : 0 ≤ if i < 0 then -i else i := by
  by_cases h : i < 0
  · rw [if_pos h]; omega
  · rw [if_neg h]; omega
theorem ok_law_next {f : Addr} {fd : FuncData} (T : Txt K mg) (F : FnP K "_law_next" s_law_next f fd) : FnOk P w K mg base CX0 1 f fd ["_law_stream_here", "_law_many"] (spS T_law_next) := by
  refine F.ok sc_law_next (fun vs H Q E h => len_S len_law_next h) (fun cdv A outer s H vs Q E hr h => ?_)
  have hu := hu_of hr
  refine ⟨_, PSs.nox (pss_cons
      (ps_if (pt_cmpR op_eq (pe_ix (ixK K) (pv 0) pe_int (fun _ _ => rfl)) pe_int (nomark _)) (pss_cons
       (ps_set (i := 2) sc_law_next.nd rfl (by first | exact Or.inl rfl | exact Or.inr rfl) (pe_ix (ixK K) (pv 0) pe_int (fun _ _ => rfl)))
       (pss_cons
       (ps_set (i := 3) sc_law_next.nd rfl (by first | exact Or.inl rfl | exact Or.inr rfl) (pe_op (plusK K) pe_int (pv 2)))
       (pss_cons
       (ps_if (pt_cmpR op_lt (pv 2) (pe_callB (lenK K) (by rfl) T.b_len bt_len (pa_cons (pe_ix (ixK K) (pv 0) pe_int (fun _ _ => rfl)) pa_nil)) (nomark _)) (pss_one
        (ps_set (i := 3) sc_law_next.nd rfl (by first | exact Or.inl rfl | exact Or.inr rfl) (pe_callB call_abs (by rfl) T.b_abs bt_abs (pa_cons (pe_ix (ixK K) (pe_ix (ixK K) (pv 0) pe_int (fun _ _ => rfl)) (pv 2) (fun _ _ => rfl)) pa_nil)))) pss_nil)
       (pss_cons
       (ps_if (pt_cmpR op_lt (pv 3) (pe_op op_pow pe_int pe_int) (nomark _)) (pss_cons
        (ps_set (i := 3) sc_law_next.nd rfl (by first | exact Or.inl rfl | exact Or.inr rfl) (pe_op op_mod (pe_callTy call_int1 (by rfl) T.b_int bt_int (pa_cons (pe_op (plusK K) (pe_op (plusK K) (pe_op (timesK K) (pv 3) pe_int) (pe_op (timesK K) (pv 2) pe_int)) pe_int) pa_nil)) pe_int))
        (pss_one
        (ps_set (i := 3) sc_law_next.nd rfl (by first | exact Or.inl rfl | exact Or.inr rfl) (pe_op (plusK K) (pe_op (timesK K) (pe_op op_mod (pe_callTy call_int1 (by rfl) T.b_int bt_int (pa_cons (pe_op (plusK K) (pe_op (timesK K) (pv 3) pe_int) pe_int) pa_nil)) pe_int) pe_int) (pv 3))))) pss_nil)
       (pss_cons
       (ps_asg (pv 3) (pg_sub (pv 0) pe_int set_list))
       (pss_one
       (ps_asg (pe_op (plusK K) (pv 2) pe_int) (pg_sub (pv 0) pe_int set_list)))))))) pss_nil)
      (pss_cons
      (ps_set (i := 4) sc_law_next.nd rfl (by first | exact Or.inl rfl | exact Or.inr rfl) (pe_op op_mod (pe_callTy call_int1 (by rfl) T.b_int bt_int (pa_cons (pe_ix (ixK K) (pv 0) pe_int (fun _ _ => rfl)) pa_nil)) (pv 1)))
      (pss_cons
      (ps_asg (pe_op op_fdiv (pe_ix (ixK K) (pv 0) pe_int (fun _ _ => rfl)) (pv 1)) (pg_sub (pv 0) pe_int set_list))
      (pss_one
      (ps_ret (pv 4)))))), ?_⟩
  refine body_S (by decide) h fun p ds Q hT => ?_
  obtain ⟨m, rfl, h1, h2, k0⟩ := hT
  refine ws_openSt (i := 0) (p := p) rfl fun cells cur k hcur hk => ?_
  refine ws_mid (fun ρ' => ∃ cur k x2 x3, 0 ≤ cur ∧ 0 ≤ k ∧ ρ' = lnR p m cells cur k x2 x3 none) ?_ ?_
  · walk_at "w"
    refine rd_eqI ⟨_, rfl, fun hb => ?_, fun hb => ?_⟩
    case refine_2 => exact ws_next ⟨cur, k, none, none, hcur, hk, rfl⟩
    walk_at "w"
    refine rd_plusI ?_
    refine ws_mid (fun ρ' => ∃ c : Int, 0 ≤ c ∧ ρ' = lnR p m cells cur k (some (.imm (.int k))) (some (.imm (.int c))) none) ?_ ?_
    · walk_at "w"
      refine rc_len (.inr rfl) ?_
      refine rd_B0 ⟨_, rfl, fun hb => ?_, fun hb => ?_⟩
      · have hb := of_decide_eq_true hb
        rw [List.length_map] at hb
        walk_at "w"
        obtain ⟨kn, rfl⟩ : ∃ kn : Nat, k = (kn : Int) := ⟨k.toNat, by omega⟩
        have hkl : kn < cells.length := by omega
        refine rd_ixL (d := .int (cells[kn])) (atI_nat ?_) ?_
        · rw [List.getElem?_map, List.getElem?_eq_getElem hkl]; rfl
        walk_at "w"
        exact rc_abs ⟨_, if_abs _, rfl⟩
      · exact ws_next ⟨7 + k, by omega, rfl⟩
    rintro ρ' ⟨c, hc, rfl⟩
    refine ws_mid (fun ρ' => ∃ c : Int, 0 ≤ c ∧ ρ' = lnR p m cells cur k (some (.imm (.int k))) (some (.imm (.int c))) none) ?_ ?_
    · walk_at "w"
      refine rd_I (g := fun i j => i ^ j.toNat) (by unfold CPow; decide) ?_
      refine rd_B0 ⟨_, rfl, fun hb => ?_, fun hb => ?_⟩
      · walk_at "w"
        refine rd_timesI (.inr (by decide)) ?_
        walk_at "w"
        refine rd_timesI (.inr (by decide)) ?_
        refine rd_plusI ?_
        walk_at "w"
        refine rd_plusI ?_
        walk_at "w"
        refine rc_intI ?_
        walk_at "w"
        refine rd_I (C := fun _ j => 0 < j) (g := fun i j => i % j) (by decide) ?_
        walk_at "w"
        refine rd_timesI (.inr (by decide)) ?_
        walk_at "w"
        refine rd_plusI ?_
        walk_at "w"
        refine rc_intI ?_
        walk_at "w"
        refine rd_I (C := fun _ j => 0 < j) (g := fun i j => i % j) (by decide) ?_
        walk_at "w"
        refine rd_timesI (.inr (by decide)) ?_
        walk_at "w"
        refine rd_plusI ?_
        exact ⟨_, by omega, rfl⟩
      · exact ws_next ⟨c, hc, rfl⟩
    rintro ρ' ⟨c, hc, rfl⟩
    refine ws_seq (ws_setOl (p := p) ?_)
    walk_at "w"
    refine ⟨_, 1, rfl, rfl, ?_⟩
    refine ws_setOl (p := p) ?_
    walk_at "w"
    refine rd_plusI ?_
    exact ⟨_, 2, rfl, rfl, c, k + 1, _, _, hc, by omega, rfl⟩
  rintro ρ' ⟨cur, k, x2, x3, hcur, hk, rfl⟩
  walk_at "w"
  refine rc_intI ?_
  walk_at "w"
  refine rd_I (C := fun _ j => 0 < j) (g := fun i j => i % j) (by omega) ?_
  refine ws_seq (ws_setOl (p := p) ?_)
  walk_at "w"
  refine rd_I (C := CDiv) (g := fun i j => i / j) ⟨by omega, by omega⟩ ?_
  refine ⟨_, 1, rfl, rfl, ?_⟩
  walk_at "w"
  have hm := Int.emod_nonneg cur (show (m : Int) ≠ 0 by omega)
  have hm2 := Int.emod_lt_of_pos cur (show (0 : Int) < m by omega)
  refine ⟨_, rfl, ?_, _, rfl, .inr ⟨cells, cur / m, k, rfl, Int.ediv_nonneg hcur (by omega), hk⟩⟩
  have e : cur % (m : Int) = ((cur % (m : Int)).toNat : Int) := by omega
  rw [e]
  exact k0 _ (by omega)
theorem sc_law_sequence : FnScope ["_law_stream_here", "_law_system_here", "_law_most", "_law_turn"] ["_law_stream_here", "_law_system_here", "_law_most"] (defScope s_law_sequence) := ⟨rfl, rfl, rfl, by decide +kernel, rfl, by decide +kernel, by decide +kernel⟩
def T_law_sequence : List D → (D → Prop) → Prop := fun ds Q => ∃ (s : Sys) (m : Nat), ds = [sysD s, .int (m : Int)] ∧ s.Wf ∧ 1 ≤ s.k ∧ m ≤ 60 ∧ ∀ d, Q d
theorem len_law_sequence : ∀ ds Q, T_law_sequence ds Q → ds.length + 1 = 3 := fun ds Q ⟨s, m, h, _⟩ => by rw [h]; rfl
theorem ok_law_sequence {f : Addr} {fd : FuncData} (T : Txt K mg) (F : FnP K "_law_sequence" s_law_sequence f fd) {f_law_next : Addr} {fd_law_next : FuncData} (c_law_next : Cal P w K mg base "_law_next" 1 ["_law_stream_here", "_law_many"] (spS T_law_next) f_law_next fd_law_next) : FnOk P w K mg base CX0 2 f fd ["_law_stream_here", "_law_system_here", "_law_most"] (spS T_law_sequence) := by
  refine F.ok sc_law_sequence (fun vs H Q E h => len_S len_law_sequence h) (fun cdv A outer s H vs Q E hr h => ?_)
  have hu := hu_of hr
  refine ⟨_, PSs.nox (pss_one
      (ps_ret (pe_callTy (tupleK K) (by rfl) T.b_tuple bt_tuple (pa_cons (pe_lc (own := [("_law_turn", 3)]) (g := gName 3) rfl sc_law_sequence.nd (pi_range1 rfl T.b_range (pa_cons (pe_call c_law_next.G (hr.mono (by decide)) rfl c_law_next.m c_law_next.kp c_law_next.b .nil pass0 (pa_cons (pv 0) (pa_cons (pe_op (plusK K) (pv 2) pe_int) pa_nil))) pa_nil)) (blkOk_by (own := [("_law_turn", 3)]) (N := ["_law_stream_here", "_law_system_here", "_law_most", "_law_turn"]) (sc := defScope s_law_sequence) (by decide +kernel)) (fun _ _ _ _ _ => (pg_name (i := 3) sc_law_sequence.nd rfl (by first | exact Or.inl rfl | exact Or.inr rfl))) (fun _ _ _ _ _ => pts_nil) (fun _ _ _ _ _ => (pe_call c_law_next.G (hr.mono (by decide)) rfl c_law_next.m c_law_next.kp c_law_next.b .nil pass0 (pa_cons (pv 0) (pa_cons (pe_callB (lenK K) (by rfl) T.b_len bt_len (pa_cons (pe_ix (ixK K) (pv 1) pe_int (fun _ _ => rfl)) pa_nil)) pa_nil))))) pa_nil)))), ?_⟩
  refine body_S (by decide) h fun p ds Q hT => ?_
  obtain ⟨s, m, rfl, hw, hk1, hm, k0⟩ := hT
  have hk4 := hw.k4
  have hk4 : s.k ≤ 4 := hk4
  walk_at "w"
  refine we_lc (wi_range ?_)
  walk_at "w"
  refine rd_plusI ?_
  walk_at "w"
  refine ⟨rfl, m + 1, by rw [Int.natCast_add]; rfl, by omega, by omega, fun d hd => ?_⟩
  walk_at "w"
  refine ⟨d, rfl, by omega, fun i acc ρ' => ρ' = [some (.st p), some (.imm (sysD s)), some (.imm (.int (m : Int))), none], by rw [rgD_length]; omega, rfl, ?_, ?_⟩
  · rintro i d acc ρ' hd rfl
    refine wgv_name (by decide) ?_
    refine wt_yes ⟨fun _ => ?_, fun z => by cases z⟩
    walk_at "w"
    refine rd_ixT (d := .tup (tabsD s.cmds)) rfl ?_
    walk_at "w"
    refine rc_len (.inl rfl) ?_
    walk_at "w"
    exact ⟨rfl, s.k, by rw [tabsD_length]; rfl, hk1, by omega, fun d hd => rfl⟩
  · rintro acc ρ' rfl
    walk_at "w"
    exact rc_tuple (.inr rfl) ⟨_, rfl, k0 _, _, rfl, .inl rfl⟩
theorem sc_law_item : FnScope ["_law_stream_here", "_law_system_here", "_law_reachable_here", "_law_one", "_law_command"] ["_law_stream_here", "_law_system_here"] (defScope s_law_item) := ⟨rfl, rfl, rfl, by decide +kernel, rfl, by decide +kernel, by decide +kernel⟩
def T_law_item : List D → (D → Prop) → Prop := fun ds Q => ∃ (s : Sys), ds = [sysD s] ∧ s.Wf ∧ s.n ≤ 4 ∧ 1 ≤ s.k ∧ ∀ vs : List D, vs.length = 4 ∨ vs.length = 5 → Q (.tup vs)
theorem len_law_item : ∀ ds Q, T_law_item ds Q → ds.length + 1 = 2 := fun ds Q ⟨s, h, _⟩ => by rw [h]; rfl
theorem natD_nth {xs : List Nat} {i : Nat} (h : i < xs.length) : atI (natD xs) (i : Int) = some (.int (xs[i] : Int)) := atI_nat (natD_get (List.getElem?_eq_getElem h))
theorem ok_law_item {f : Addr} {fd : FuncData} (T : Txt K mg) (F : FnP K "_law_item" s_law_item f fd) {f_law_reachable : Addr} {fd_law_reachable : FuncData} (c_law_reachable : Cal P w K mg base "_law_reachable" 2 ["_law_system_here"] (spP T_law_reachable) f_law_reachable fd_law_reachable) {f_law_next : Addr} {fd_law_next : FuncData} (c_law_next : Cal P w K mg base "_law_next" 1 ["_law_stream_here", "_law_many"] (spS T_law_next) f_law_next fd_law_next) {f_law_sequence : Addr} {fd_law_sequence : FuncData} (c_law_sequence : Cal P w K mg base "_law_sequence" 2 ["_law_stream_here", "_law_system_here", "_law_most"] (spS T_law_sequence) f_law_sequence fd_law_sequence) : FnOk P w K mg base CX0 3 f fd ["_law_stream_here", "_law_system_here"] (spS T_law_item) := by
  refine F.ok sc_law_item (fun vs H Q E h => len_S len_law_item h) (fun cdv A outer s H vs Q E hr h => ?_)
  have hu := hu_of hr
  refine ⟨_, PSs.nox (pss_cons
      (ps_set (i := 2) sc_law_item.nd rfl (by first | exact Or.inl rfl | exact Or.inr rfl) (pe_call c_law_reachable.G (hr.mono (by decide)) rfl c_law_reachable.m c_law_reachable.kp c_law_reachable.b .nil pass0 (pa_cons (pv 1) pa_nil)))
      (pss_cons
      (ps_set (i := 3) sc_law_item.nd rfl (by first | exact Or.inl rfl | exact Or.inr rfl) (pe_ix (ixK K) (pv 2) (pe_call c_law_next.G (hr.mono (by decide)) rfl c_law_next.m c_law_next.kp c_law_next.b .nil pass0 (pa_cons (pv 0) (pa_cons (pe_callB (lenK K) (by rfl) T.b_len bt_len (pa_cons (pv 2) pa_nil)) pa_nil))) (fun _ _ => rfl)))
      (pss_cons
      (ps_set (i := 4) sc_law_item.nd rfl (by first | exact Or.inl rfl | exact Or.inr rfl) (pe_call c_law_next.G (hr.mono (by decide)) rfl c_law_next.m c_law_next.kp c_law_next.b .nil pass0 (pa_cons (pv 0) (pa_cons (pe_callB (lenK K) (by rfl) T.b_len bt_len (pa_cons (pe_ix (ixK K) (pv 1) pe_int (fun _ _ => rfl)) pa_nil)) pa_nil))))
      (pss_cons
      (ps_if (pt_cmpR op_eq (pe_call c_law_next.G (hr.mono (by decide)) rfl c_law_next.m c_law_next.kp c_law_next.b .nil pass0 (pa_cons (pv 0) (pa_cons pe_int pa_nil))) pe_int (nomark _)) (pss_one
       (ps_ret (pe_tup (pa_cons pe_str (pa_cons (pv 3) (pa_cons (pe_ix (ixK K) (pv 2) (pe_call c_law_next.G (hr.mono (by decide)) rfl c_law_next.m c_law_next.kp c_law_next.b .nil pass0 (pa_cons (pv 0) (pa_cons (pe_callB (lenK K) (by rfl) T.b_len bt_len (pa_cons (pv 2) pa_nil)) pa_nil))) (fun _ _ => rfl)) (pa_cons (pv 4) pa_nil))))))) pss_nil)
      (pss_one
      (ps_ret (pe_tup (pa_cons pe_str (pa_cons (pv 3) (pa_cons (pv 4) (pa_cons (pe_call c_law_sequence.G (hr.mono (by decide)) rfl c_law_sequence.m c_law_sequence.kp c_law_sequence.b .nil pass0 (pa_cons (pv 0) (pa_cons (pv 1) (pa_cons pe_int pa_nil)))) (pa_cons (pe_call c_law_sequence.G (hr.mono (by decide)) rfl c_law_sequence.m c_law_sequence.kp c_law_sequence.b .nil pass0 (pa_cons (pv 0) (pa_cons (pv 1) (pa_cons pe_int pa_nil)))) pa_nil)))))))))))), ?_⟩
  refine body_S (by decide) h fun p ds Q hT => ?_
  obtain ⟨s, rfl, hw, hn4, hk1, k0⟩ := hT
  have hk4 := hw.k4
  have hk4 : s.k ≤ 4 := hk4
  have hrn := reach_len s
  have hr0 := hw.reach_pos
  walk_at "w"
  refine ⟨s, rfl, hw, hn4, _, rfl, ?_⟩
  walk_at "w"
  refine rc_len (.inr rfl) ?_
  walk_at "w"
  refine ⟨rfl, s.reach.length, by rw [natD_length], hr0, by omega, fun i hi => ?_⟩
  refine rd_ixL (natD_nth hi) ?_
  walk_at "w"
  refine rd_ixT (d := .tup (tabsD s.cmds)) rfl ?_
  walk_at "w"
  refine rc_len (.inl rfl) ?_
  walk_at "w"
  refine ⟨rfl, s.k, by rw [tabsD_length]; rfl, hk1, by omega, fun c hc => ?_⟩
  walk_at "w"
  refine ⟨rfl, 3, rfl, by omega, by omega, fun z hz => ?_⟩
  walk_at "w"
  refine rd_eqI ⟨_, rfl, fun hb => ?_, fun hb => ?_⟩
  · walk_at "w"
    refine rc_len (.inr rfl) ?_
    walk_at "w"
    refine ⟨rfl, s.reach.length, by rw [natD_length], hr0, by omega, fun j hj => ?_⟩
    refine rd_ixL (natD_nth hj) ?_
    walk_at "w"
    exact ⟨_, rfl, k0 _ (.inl rfl), _, rfl, .inl rfl⟩
  · walk_at "w"
    refine ⟨rfl, s, 3, rfl, hw, hk1, by omega, fun q => ?_⟩
    walk_at "w"
    refine ⟨rfl, s, 3, rfl, hw, hk1, by omega, fun r => ?_⟩
    walk_at "w"
    exact ⟨_, rfl, k0 _ (.inr rfl), _, rfl, .inl rfl⟩
end
end K47

set_option Elab.async false
set_option linter.all false
set_option maxRecDepth 100000
set_option maxHeartbeats 4000000
namespace K47
open PySem L2
local macro_rules | `(tactic| walk_at "w1") => `(tactic| first
  | with_reducible refine ws_seq ?_
  | with_reducible refine ws_ret ?_
  | with_reducible refine ws_asg ?_
  | with_reducible refine ws_drop ?_
  | with_reducible refine ws_if ?_
  | with_reducible refine ws_next ?_
  | ((with_reducible refine' we_var ?hv ?_); (case hv => exact rfl))
  | with_reducible refine we_int ?_
  | with_reducible refine we_bl ?_
  | with_reducible refine we_non ?_
  | with_reducible refine we_str ?_
  | with_reducible refine we_callP ?_
  | ((with_reducible refine' we_callS ?hv ?_); (case hv => exact rfl))
  | ((with_reducible refine' we_ixOl ?hv ?hw ?_); (case hv => exact rfl); (case hw => exact rfl))
  | ((with_reducible refine' we_lenOl ?hv ?_); (case hv => exact rfl))
  | with_reducible refine we_isi (by decide) ?_
  | with_reducible refine we_cb ?_
  | with_reducible refine we_op ?_
  | with_reducible refine we_un ?_
  | with_reducible refine we_chain ?_
  | with_reducible refine we_andV ?_
  | with_reducible refine we_orV ?_
  | with_reducible refine we_notV ?_
  | with_reducible refine we_if ?_
  | with_reducible refine we_tup ?_
  | with_reducible refine we_lst ?_
  | with_reducible refine wa_nil ?_
  | with_reducible refine wa_cons ?_
  | with_reducible refine wt_test ?_
  | with_reducible refine wt_B ?_
  | with_reducible refine wt_not ?_
  | with_reducible refine wt_and ?_
  | with_reducible refine wt_or ?_
  | with_reducible refine wt_yes ?_
  | with_reducible refine wt_truK ?_
  | ((with_reducible refine' len_and ?hl ?_); (case hl => exact Nat.le_of_ble_eq_true rfl)))
local macro_rules | `(tactic| walk_at "w") => `(tactic| repeat walk_at "w1")
theorem eraseIdx_natD : ∀ (ls : List Nat) (k : Nat), (natD ls).eraseIdx k = natD (ls.eraseIdx k)
  | [], _ => rfl
  | _ :: _, 0 => rfl
  | a :: ls, k + 1 => by
    show D.int (a : Int) :: (natD ls).eraseIdx k = D.int (a : Int) :: natD (ls.eraseIdx k)
    rw [eraseIdx_natD ls k]
theorem mem_eraseIdx' : ∀ {ls : List Nat} {k x : Nat}, x ∈ ls.eraseIdx k → x ∈ ls
  | [], _, _, h => h
  | _ :: _, 0, _, h => List.mem_cons_of_mem _ h
  | a :: ls, k + 1, x, h => by
    rcases List.mem_cons.mp h with e | z
    · rw [e]; exact List.mem_cons_self ..
    · exact List.mem_cons_of_mem _ (mem_eraseIdx' z)
theorem tabsD_append (X Y : List (List Nat)) : tabsD (X ++ Y) = tabsD X ++ tabsD Y := List.map_append
theorem atI_lt {ds : List D} {i : Nat} (h : i < ds.length) : atI ds (i : Int) = some ds[i] := atI_nat (List.getElem?_eq_getElem h)
theorem cutD_len (ds : List D) (lo hi : Option Int) : (cutD ds lo hi).length ≤ ds.length := by
  unfold cutD
  rw [List.length_take, List.length_drop]
  omega
def laR (p t : Addr) (n : Nat) (ts : List (List Nat)) (x5 x6 x7 : Option Cell) : Rho := [some (.st p), some (.imm (.int 4)), some (.imm (.int 4)), some (.imm (.int (n : Int))), some (.ol t (tabsD ts)), x5, x6, x7, none]

section
variable {P : Program} {w : World} {K : PySem.W.Frag} {mg : Str → Option Value} {base : Heap}
theorem sc_law_system : FnScope ["_law_stream_here", "_law_most", "_law_commands", "_law_many", "_law_tables", "_law_command", "_law_table", "_law_left", "_law_state"] ["_law_stream_here", "_law_most", "_law_commands"] (defScope s_law_system) := ⟨rfl, rfl, rfl, by decide +kernel, rfl, by decide +kernel, by decide +kernel⟩
def T_law_system : List D → (D → Prop) → Prop := fun ds Q => ds = [.int 4, .int 4] ∧ ∀ s : Sys, s.Wf → s.n ≤ 4 → Q (sysD s)
theorem len_law_system : ∀ ds Q, T_law_system ds Q → ds.length + 1 = 3 := fun ds Q ⟨h, _⟩ => by rw [h]; rfl
theorem ok_law_system {f : Addr} {fd : FuncData} (T : Txt K mg) (F : FnP K "_law_system" s_law_system f fd) {f_law_next : Addr} {fd_law_next : FuncData} (c_law_next : Cal P w K mg base "_law_next" 1 ["_law_stream_here", "_law_many"] (spS T_law_next) f_law_next fd_law_next) : FnOk P w K mg base CX0 2 f fd ["_law_stream_here", "_law_most", "_law_commands"] (spS T_law_system) := by
  refine F.ok sc_law_system (fun vs H Q E h => len_S len_law_system h) (fun cdv A outer s H vs Q E hr h => ?_)
  have hu := hu_of hr
  refine ⟨_, PSs.nox (pss_cons
      (ps_set (i := 3) sc_law_system.nd rfl (by first | exact Or.inl rfl | exact Or.inr rfl) (pe_op (plusK K) pe_int (pe_call c_law_next.G (hr.mono (by decide)) rfl c_law_next.m c_law_next.kp c_law_next.b .nil pass0 (pa_cons (pv 0) (pa_cons (pv 1) pa_nil)))))
      (pss_cons
      (ps_set (i := 4) sc_law_system.nd rfl (by first | exact Or.inl rfl | exact Or.inr rfl) (pe_lst pa_nil))
      (pss_cons
      (ps_for PassesOwn.never rfl (pi_range1 rfl T.b_range (pa_cons (pe_call c_law_next.G (hr.mono (by decide)) rfl c_law_next.m c_law_next.kp c_law_next.b .nil pass0 (pa_cons (pv 0) (pa_cons (pe_op (plusK K) (pv 2) pe_int) pa_nil))) pa_nil)) (pg_name (i := 5) sc_law_system.nd rfl (by first | exact Or.inl rfl | exact Or.inr rfl)) (pss_cons
       (ps_setLc (i := 6) (own := [("_law_state", 8)]) (g := gName 8) rfl sc_law_system.nd rfl rfl (sw_true rfl rfl rfl (by decide +kernel)) (pi_range1 rfl T.b_range (pa_cons (pv 3) pa_nil)) (blkOk_by (own := [("_law_state", 8)]) (N := ["_law_stream_here", "_law_most", "_law_commands", "_law_many", "_law_tables", "_law_command", "_law_table", "_law_left", "_law_state"]) (sc := defScope s_law_system) (by decide +kernel)) (fun _ _ _ _ _ => (pg_name (i := 8) sc_law_system.nd rfl (by first | exact Or.inl rfl | exact Or.inr rfl))) (fun _ _ _ _ _ => pts_nil) (fun _ _ _ _ _ => (pe_call c_law_next.G (hr.mono (by decide)) rfl c_law_next.m c_law_next.kp c_law_next.b .nil pass0 (pa_cons (pv 0) (pa_cons (pv 3) pa_nil)))))
       (pss_cons
       (ps_if (pt_cmpR op_gt (pe_call c_law_next.G (hr.mono (by decide)) rfl c_law_next.m c_law_next.kp c_law_next.b .nil pass0 (pa_cons (pv 0) (pa_cons pe_int pa_nil))) pe_int (nomark _)) (pss_cons
        (ps_set (i := 7) sc_law_system.nd rfl (by first | exact Or.inl rfl | exact Or.inr rfl) (pe_listRg rfl rfl T.b_list (prg_1 rfl T.b_range (pv 3))))
        (pss_one
        (ps_setLc (i := 6) (own := [("_law_state", 8)]) (g := gName 8) rfl sc_law_system.nd rfl rfl (sw_true rfl rfl rfl (by decide +kernel)) (pi_range1 rfl T.b_range (pa_cons (pv 3) pa_nil)) (blkOk_by (own := [("_law_state", 8)]) (N := ["_law_stream_here", "_law_most", "_law_commands", "_law_many", "_law_tables", "_law_command", "_law_table", "_law_left", "_law_state"]) (sc := defScope s_law_system) (by decide +kernel)) (fun _ _ _ _ _ => (pg_name (i := 8) sc_law_system.nd rfl (by first | exact Or.inl rfl | exact Or.inr rfl))) (fun _ _ _ _ _ => pts_nil) (fun _ _ _ _ _ => (bmK K (pe_bm PySem.F.plainAttrs_list PySem.F.slot_list_pop PySem.F.type_list_pop mt_popAt (pv 7) (pa_cons (pe_call c_law_next.G (hr.mono (by decide)) rfl c_law_next.m c_law_next.kp c_law_next.b .nil pass0 (pa_cons (pv 0) (pa_cons (pe_callB (lenK K) (by rfl) T.b_len bt_len (pa_cons (pv 7) pa_nil)) pa_nil))) pa_nil))))))) pss_nil)
       (pss_one
       (ps_expr (bmK K (pe_bm PySem.F.plainAttrs_list PySem.F.slot_list_append PySem.F.type_list_append mt_append (pv 4) (pa_cons (pe_callTy (tupleK K) (by rfl) T.b_tuple bt_tuple (pa_cons (pv 6) pa_nil)) pa_nil))))))))
      (pss_one
      (ps_ret (pe_tup (pa_cons (pv 3) (pa_cons (pe_call c_law_next.G (hr.mono (by decide)) rfl c_law_next.m c_law_next.kp c_law_next.b .nil pass0 (pa_cons (pv 0) (pa_cons (pv 3) pa_nil))) (pa_cons (pe_callTy (tupleK K) (by rfl) T.b_tuple bt_tuple (pa_cons (pv 4) pa_nil)) pa_nil))))))))), ?_⟩
  refine body_S (by decide) h fun p ds Q hT => ?_
  obtain ⟨rfl, k0⟩ := hT
  walk_at "w"
  refine ⟨rfl, 4, rfl, by omega, by omega, fun n0 hn0 => ?_⟩
  refine rd_plusI ?_
  obtain ⟨n, hn, hn1, hn4⟩ : ∃ n : Nat, (1 + (n0 : Int)) = (n : Int) ∧ 1 ≤ n ∧ n ≤ 4 := ⟨n0 + 1, by omega, by omega, by omega⟩
  rw [hn]
  refine ws_seq (ws_asgC (wc_lst ?_))
  walk_at "w"
  refine fun t => ?_
  refine ws_seq (ws_for (wi_range ?_))
  walk_at "w"
  refine rd_plusI ?_
  walk_at "w"
  refine ⟨rfl, 5, rfl, by omega, by omega, fun c hc => ?_⟩
  walk_at "w"
  refine ⟨c, rfl, by omega, fun i ρ' => ∃ ts x5 x6 x7, ts.length = i ∧ (∀ tt ∈ ts, tt.length = n ∧ ∀ x ∈ tt, x < n) ∧ ρ' = laR p t n ts x5 x6 x7, ⟨[], none, none, none, rfl, (fun tt h => by cases h), rfl⟩, ?_, ?_⟩
  · rintro i d ρ' hd ⟨ts, x5, x6, x7, hl, hts, rfl⟩
    have hin : i < c := by
      have := (List.getElem?_eq_some_iff.mp hd).1
      rw [rgD_length] at this; exact this
    refine wg_name ?_
    refine ws_seq (ws_asg (we_lc (wi_range ?_)))
    walk_at "w"
    refine ⟨n, rfl, by omega, fun j acc ρ' => ∃ zs, acc = natD zs ∧ zs.length = j ∧ (∀ z ∈ zs, z < n) ∧ ρ' = laR p t n ts (some (.imm d)) x6 x7, by rw [rgD_length]; omega, ⟨[], rfl, rfl, (fun z h => by cases h), rfl⟩, ?_, ?_⟩
    · rintro j d2 acc ρ' hd2 ⟨zs, rfl, g1, g2, rfl⟩
      refine wgv_name (by decide) ?_
      refine wt_yes ⟨fun _ => ?_, fun z => by cases z⟩
      walk_at "w"
      refine ⟨rfl, n, rfl, hn1, by omega, fun z hz => ⟨zs ++ [z], by rw [natD_append]; rfl, by rw [List.length_append, g1]; rfl, fun y hy => ?_, rfl⟩⟩
      rcases List.mem_append.mp hy with q | q
      · exact g2 y q
      · rw [List.mem_singleton.mp q]; exact hz
    rintro acc ρ' ⟨zs, rfl, g1, g2, rfl⟩
    rw [rgD_length] at g1
    refine ws_mid (fun ρ' => ∃ zs x7, zs.length = n ∧ (∀ z ∈ zs, z < n) ∧ ρ' = laR p t n ts (some (.imm d)) (some (.imm (.lst (natD zs)))) x7) ?_ ?_
    · walk_at "w"
      refine ⟨rfl, 3, rfl, by omega, by omega, fun z hz => ?_⟩
      walk_at "w"
      refine rd_B0 ⟨_, rfl, fun hb => ?_, fun hb => ?_⟩
      · refine ws_seq (ws_asgC (wc_listRg ?_))
        walk_at "w"
        refine ⟨n, rfl, by omega, fun q => ?_⟩
        refine ws_asg (we_lc (wi_range ?_))
        walk_at "w"
        refine ⟨n, rfl, by omega, fun j acc ρ' => ∃ ls us, acc = natD us ∧ us.length = j ∧ ls.length = n - j ∧ (∀ z ∈ ls, z < n) ∧ (∀ z ∈ us, z < n) ∧ ρ' = laR p t n ts (some (.imm d)) (some (.imm (.lst (natD zs)))) (some (.ol q (natD ls))), by rw [rgD_length]; omega, ⟨List.range n, [], rfl, rfl, List.length_range, (fun z h => List.mem_range.mp h), (fun z h => by cases h), rfl⟩, ?_, ?_⟩
        · rintro j d2 acc ρ' hd2 ⟨ls, us, rfl, h1, h2, h3, h4, rfl⟩
          have hjn : j < n := by
            have := (List.getElem?_eq_some_iff.mp hd2).1
            rw [rgD_length] at this; exact this
          refine wgv_name (by decide) ?_
          refine wt_yes ⟨fun _ => ?_, fun z => by cases z⟩
          refine we_popAt (i := 7) rfl ?_
          walk_at "w"
          refine ⟨rfl, ls.length, by rw [natD_length], by omega, by omega, fun z hz => ?_⟩
          refine ⟨natD ls, z, .int (ls[z] : Int), rfl, rfl, natD_get (List.getElem?_eq_getElem hz), by rw [natD_length]; omega, ls.eraseIdx z, us ++ [ls[z]], by rw [natD_append]; rfl, by rw [List.length_append, h1]; rfl, by rw [List.length_eraseIdx_of_lt hz]; omega, fun y hy => h3 y (mem_eraseIdx' hy), fun y hy => ?_, by rw [eraseIdx_natD]; rfl⟩
          rcases List.mem_append.mp hy with q | q
          · exact h4 y q
          · rw [List.mem_singleton.mp q]; exact h3 _ (List.getElem_mem hz)
        · rintro acc ρ' ⟨ls, us, rfl, h1, h2, h3, h4, rfl⟩
          rw [rgD_length] at h1
          exact ⟨us, _, h1, h4, rfl⟩
      · exact ws_next ⟨zs, _, g1, g2, rfl⟩
    clear g1 g2
    rintro ρ' ⟨zs, x7, g1, g2, rfl⟩
    refine ws_app (i := 4) rfl ?_
    walk_at "w"
    refine rc_tuple (.inr rfl) ?_
    refine ⟨_, rfl, by rw [tabsD_length]; omega, ts ++ [zs], some (.imm d), some (.imm (.lst (natD zs))), x7, by rw [List.length_append, hl]; rfl, fun tt htt => ?_, by unfold laR; rw [tabsD_append]; rfl⟩
    rcases List.mem_append.mp htt with q | q
    · exact hts tt q
    · rw [List.mem_singleton.mp q]; exact ⟨g1, g2⟩
  · rintro ρ' ⟨ts, x5, x6, x7, hl, hts, rfl⟩
    rw [rgD_length] at hl
    refine ws_freeze (i := 4) rfl ?_
    walk_at "w"
    refine ⟨rfl, n, rfl, hn1, by omega, fun st hst => ?_⟩
    walk_at "w"
    refine rc_tuple (.inr rfl) ?_
    walk_at "w"
    exact ⟨_, rfl, k0 ⟨n, st, ts⟩ ⟨hn1, by show n ≤ 8; omega, hst, by show ts.length ≤ 4; omega, fun tt h => (hts tt h).1, fun tt h => (hts tt h).2⟩ hn4, _, rfl, .inl rfl⟩
theorem sc_law_some_system : FnScope ["_law_stream_here", "_law_known"] ["_law_stream_here"] (defScope s_law_some_system) := ⟨rfl, rfl, rfl, by decide +kernel, rfl, by decide +kernel, by decide +kernel⟩
def T_law_some_system : List D → (D → Prop) → Prop := fun ds Q => ds = [] ∧ ∀ s : Sys, s.Wf → s.n ≤ 4 → Q (sysD s)
theorem len_law_some_system : ∀ ds Q, T_law_some_system ds Q → ds.length + 1 = 1 := fun ds Q ⟨h, _⟩ => by rw [h]; rfl
theorem wf_some : ∀ i : Fin 5, (([⟨3, 0, [[1, 0, 2], [0, 2, 1]]⟩, ⟨4, 0, [[1, 0, 3, 2], [2, 3, 0, 1]]⟩, ⟨4, 1, [[1, 2, 3, 0]]⟩, ⟨4, 0, [[1, 2, 3, 0], [1, 0, 3, 2]]⟩, ⟨4, 0, [[1, 1, 3, 3], [2, 3, 2, 3]]⟩] : List Sys)[i]).Wf := fun i => by
  match i with
  | 0 => exact ⟨by decide, by decide, by decide, by decide, by decide, by decide⟩
  | 1 => exact ⟨by decide, by decide, by decide, by decide, by decide, by decide⟩
  | 2 => exact ⟨by decide, by decide, by decide, by decide, by decide, by decide⟩
  | 3 => exact ⟨by decide, by decide, by decide, by decide, by decide, by decide⟩
  | 4 => exact ⟨by decide, by decide, by decide, by decide, by decide, by decide⟩
theorem ok_law_some_system {f : Addr} {fd : FuncData} (T : Txt K mg) (F : FnP K "_law_some_system" s_law_some_system f fd) {f_law_next : Addr} {fd_law_next : FuncData} (c_law_next : Cal P w K mg base "_law_next" 1 ["_law_stream_here", "_law_many"] (spS T_law_next) f_law_next fd_law_next) {f_law_system : Addr} {fd_law_system : FuncData} (c_law_system : Cal P w K mg base "_law_system" 2 ["_law_stream_here", "_law_most", "_law_commands"] (spS T_law_system) f_law_system fd_law_system) : FnOk P w K mg base CX0 3 f fd ["_law_stream_here"] (spS T_law_some_system) := by
  refine F.ok sc_law_some_system (fun vs H Q E h => len_S len_law_some_system h) (fun cdv A outer s H vs Q E hr h => ?_)
  have hu := hu_of hr
  refine ⟨_, PSs.nox (pss_cons
      (ps_set (i := 1) sc_law_some_system.nd rfl (by first | exact Or.inl rfl | exact Or.inr rfl) (pe_lst (pa_cons (pe_tup (pa_cons pe_int (pa_cons pe_int (pa_cons (pe_tup (pa_cons (pe_tup (pa_cons pe_int (pa_cons pe_int (pa_cons pe_int pa_nil)))) (pa_cons (pe_tup (pa_cons pe_int (pa_cons pe_int (pa_cons pe_int pa_nil)))) pa_nil))) pa_nil)))) (pa_cons (pe_tup (pa_cons pe_int (pa_cons pe_int (pa_cons (pe_tup (pa_cons (pe_tup (pa_cons pe_int (pa_cons pe_int (pa_cons pe_int (pa_cons pe_int pa_nil))))) (pa_cons (pe_tup (pa_cons pe_int (pa_cons pe_int (pa_cons pe_int (pa_cons pe_int pa_nil))))) pa_nil))) pa_nil)))) (pa_cons (pe_tup (pa_cons pe_int (pa_cons pe_int (pa_cons (pe_tup (pa_cons (pe_tup (pa_cons pe_int (pa_cons pe_int (pa_cons pe_int (pa_cons pe_int pa_nil))))) pa_nil)) pa_nil)))) (pa_cons (pe_tup (pa_cons pe_int (pa_cons pe_int (pa_cons (pe_tup (pa_cons (pe_tup (pa_cons pe_int (pa_cons pe_int (pa_cons pe_int (pa_cons pe_int pa_nil))))) (pa_cons (pe_tup (pa_cons pe_int (pa_cons pe_int (pa_cons pe_int (pa_cons pe_int pa_nil))))) pa_nil))) pa_nil)))) (pa_cons (pe_tup (pa_cons pe_int (pa_cons pe_int (pa_cons (pe_tup (pa_cons (pe_tup (pa_cons pe_int (pa_cons pe_int (pa_cons pe_int (pa_cons pe_int pa_nil))))) (pa_cons (pe_tup (pa_cons pe_int (pa_cons pe_int (pa_cons pe_int (pa_cons pe_int pa_nil))))) pa_nil))) pa_nil)))) pa_nil)))))))
      (pss_cons
      (ps_if (pt_cmpR op_eq (pe_call c_law_next.G (hr.mono (by decide)) rfl c_law_next.m c_law_next.kp c_law_next.b .nil pass0 (pa_cons (pv 0) (pa_cons pe_int pa_nil))) pe_int (nomark _)) (pss_one
       (ps_ret (pe_ix (ixK K) (pv 1) (pe_call c_law_next.G (hr.mono (by decide)) rfl c_law_next.m c_law_next.kp c_law_next.b .nil pass0 (pa_cons (pv 0) (pa_cons pe_int pa_nil))) (fun _ _ => rfl)))) pss_nil)
      (pss_one
      (ps_ret (pe_call c_law_system.G (hr.mono (by decide)) rfl c_law_system.m c_law_system.kp c_law_system.b .nil pass0 (pa_cons (pv 0) (pa_cons pe_int (pa_cons pe_int pa_nil)))))))), ?_⟩
  refine body_S (by decide) h fun p ds Q hT => ?_
  obtain ⟨rfl, k0⟩ := hT
  walk_at "w"
  refine ⟨rfl, 3, rfl, by omega, by omega, fun z hz => ?_⟩
  walk_at "w"
  refine rd_eqI ⟨_, rfl, fun hb => ?_, fun hb => ?_⟩
  · walk_at "w"
    refine ⟨rfl, 5, rfl, by omega, by omega, fun i hi => ?_⟩
    have fin : ∀ s : Sys, s.Wf → s.n ≤ 4 → ∃ d, Cell.imm (sysD s) = Cell.imm d ∧ Q d := fun s a b => ⟨_, rfl, k0 s a b⟩
    match i, hi with
    | 0, _ => exact rd_ixL (d := sysD ⟨3, 0, [[1, 0, 2], [0, 2, 1]]⟩) rfl ⟨_, rfl, k0 _ (wf_some 0) (by decide), _, rfl, .inl rfl⟩
    | 1, _ => exact rd_ixL (d := sysD ⟨4, 0, [[1, 0, 3, 2], [2, 3, 0, 1]]⟩) rfl ⟨_, rfl, k0 _ (wf_some 1) (by decide), _, rfl, .inl rfl⟩
    | 2, _ => exact rd_ixL (d := sysD ⟨4, 1, [[1, 2, 3, 0]]⟩) rfl ⟨_, rfl, k0 _ (wf_some 2) (by decide), _, rfl, .inl rfl⟩
    | 3, _ => exact rd_ixL (d := sysD ⟨4, 0, [[1, 2, 3, 0], [1, 0, 3, 2]]⟩) rfl ⟨_, rfl, k0 _ (wf_some 3) (by decide), _, rfl, .inl rfl⟩
    | 4, _ => exact rd_ixL (d := sysD ⟨4, 0, [[1, 1, 3, 3], [2, 3, 2, 3]]⟩) rfl ⟨_, rfl, k0 _ (wf_some 4) (by decide), _, rfl, .inl rfl⟩
  · walk_at "w"
    exact ⟨rfl, rfl, fun s a b => ⟨_, rfl, k0 s a b, _, rfl, .inl rfl⟩⟩
theorem sc_law_turned : FnScope ["_law_stream_here", "_law_system_here", "_law_value", "_law_pick", "_law_item_here", "_law_odd", "_law_at", "_law_to"] ["_law_stream_here", "_law_system_here", "_law_value"] (defScope s_law_turned) := ⟨rfl, rfl, rfl, by decide +kernel, rfl, by decide +kernel, by decide +kernel⟩
def T_law_turned : List D → (D → Prop) → Prop := fun ds Q => ∃ (s : Sys) (vs : List D), ds = [sysD s, .tup vs] ∧ s.Wf ∧ s.n ≤ 4 ∧ 1 ≤ s.k ∧ vs.length ≤ 10 ∧ (∀ d ∈ vs, ∃ es, d = .tup es ∧ 1 ≤ es.length ∧ es.length ≤ 5) ∧ ∀ d, Q d
theorem len_law_turned : ∀ ds Q, T_law_turned ds Q → ds.length + 1 = 3 := fun ds Q ⟨s, m, h, _⟩ => by rw [h]; rfl
theorem plen {xs ys : List D} {m n : Nat} (h1 : xs.length ≤ m) (h2 : ys.length ≤ n) (h3 : m + n ≤ 100000 := by decide) : xs.length + ys.length ≤ 100000 := by omega
theorem ok_law_turned {f : Addr} {fd : FuncData} (T : Txt K mg) (F : FnP K "_law_turned" s_law_turned f fd) {f_law_next : Addr} {fd_law_next : FuncData} (c_law_next : Cal P w K mg base "_law_next" 1 ["_law_stream_here", "_law_many"] (spS T_law_next) f_law_next fd_law_next) {f_law_item : Addr} {fd_law_item : FuncData} (c_law_item : Cal P w K mg base "_law_item" 3 ["_law_stream_here", "_law_system_here"] (spS T_law_item) f_law_item fd_law_item) : FnOk P w K mg base CX0 4 f fd ["_law_stream_here", "_law_system_here", "_law_value"] (spS T_law_turned) := by
  refine F.ok sc_law_turned (fun vs H Q E h => len_S len_law_turned h) (fun cdv A outer s H vs Q E hr h => ?_)
  have hu := hu_of hr
  refine ⟨_, PSs.nox (pss_cons
      (ps_set (i := 3) sc_law_turned.nd rfl (by first | exact Or.inl rfl | exact Or.inr rfl) (pe_call c_law_next.G (hr.mono (by decide)) rfl c_law_next.m c_law_next.kp c_law_next.b .nil pass0 (pa_cons (pv 0) (pa_cons pe_int pa_nil))))
      (pss_cons
      (ps_if (PW.pt (pw_or (pt_cmpR op_eq (pv 3) pe_int (nomark _)) (pw_or1 (pt_not (truK K (pv 2) (by intro _; rfl)))))) (pss_cons
       (ps_set (i := 4) sc_law_turned.nd rfl (by first | exact Or.inl rfl | exact Or.inr rfl) (pe_call c_law_item.G (hr.mono (by decide)) rfl c_law_item.m c_law_item.kp c_law_item.b .nil pass0 (pa_cons (pv 0) (pa_cons (pv 1) pa_nil))))
       (pss_cons
       (ps_set (i := 5) sc_law_turned.nd rfl (by first | exact Or.inl rfl | exact Or.inr rfl) (pe_lst (pa_cons pe_non (pa_cons (pe_callTy (listK K) (by rfl) T.b_list bt_list (pa_cons (pv 2) pa_nil)) (pa_cons (pe_slice (slK K) (pv 2) (po_some pe_int) po_none) (pa_cons (pe_slice (slK K) (pv 2) po_none (po_some (pe_un un_neg pe_int))) (pa_cons (revK K (pv 2)) (pa_cons (pe_op (plusK K) (pv 2) (pe_tup (pa_cons pe_non pa_nil))) (pa_cons (pe_op (plusK K) (pv 2) (pe_tup (pa_cons (pv 4) pa_nil))) (pa_cons (pe_op (plusK K) (pe_tup (pa_cons (pv 4) pa_nil)) (pv 2)) pa_nil))))))))))
       (pss_cons
       (ps_set (i := 5) sc_law_turned.nd rfl (by first | exact Or.inl rfl | exact Or.inr rfl) (pe_op (plusK K) (pv 5) (pe_lst (pa_cons (pe_op (plusK K) (pv 2) (pe_tup (pa_cons (pe_slice (slK K) (pv 4) po_none (po_some (pe_un un_neg pe_int))) pa_nil))) (pa_cons (pe_op (timesK K) (pv 2) pe_int) (pa_cons (pe_op (plusK K) (pv 2) (pe_tup (pa_cons (pe_callTy (listK K) (by rfl) T.b_list bt_list (pa_cons (pv 4) pa_nil)) pa_nil))) (pa_cons (pe_op (plusK K) (pv 2) (pe_tup (pa_cons (pe_op (plusK K) (pe_tup (pa_cons pe_non pa_nil)) (pe_slice (slK K) (pv 4) (po_some pe_int) po_none)) pa_nil))) pa_nil)))))))
       (pss_cons
       (ps_set (i := 5) sc_law_turned.nd rfl (by first | exact Or.inl rfl | exact Or.inr rfl) (pe_op (plusK K) (pv 5) (pe_lst (pa_cons (pe_op (plusK K) (pv 2) (pe_tup (pa_cons (pe_op (plusK K) (pv 4) (pe_tup (pa_cons pe_int pa_nil))) pa_nil))) (pa_cons (pe_op (plusK K) (pv 2) (pe_tup (pa_cons (pe_op (plusK K) (pe_tup (pa_cons pe_str pa_nil)) (pe_slice (slK K) (pv 4) (po_some pe_int) po_none)) pa_nil))) pa_nil)))))
       (pss_one
       (ps_ret (pe_ix (ixK K) (pv 5) (pe_call c_law_next.G (hr.mono (by decide)) rfl c_law_next.m c_law_next.kp c_law_next.b .nil pass0 (pa_cons (pv 0) (pa_cons pe_int pa_nil))) (fun _ _ => rfl)))))))) pss_nil)
      (pss_cons
      (ps_if (pt_cmpR op_lt (pv 3) pe_int (nomark _)) (pss_cons
       (ps_set (i := 6) sc_law_turned.nd rfl (by first | exact Or.inl rfl | exact Or.inr rfl) (pe_call c_law_next.G (hr.mono (by decide)) rfl c_law_next.m c_law_next.kp c_law_next.b .nil pass0 (pa_cons (pv 0) (pa_cons (pe_callB (lenK K) (by rfl) T.b_len bt_len (pa_cons (pv 2) pa_nil)) pa_nil))))
       (pss_cons
       (ps_set (i := 4) sc_law_turned.nd rfl (by first | exact Or.inl rfl | exact Or.inr rfl) (pe_ix (ixK K) (pv 2) (pv 6) (fun _ _ => rfl)))
       (pss_cons
       (ps_set (i := 7) sc_law_turned.nd rfl (by first | exact Or.inl rfl | exact Or.inr rfl) (pe_call c_law_next.G (hr.mono (by decide)) rfl c_law_next.m c_law_next.kp c_law_next.b .nil pass0 (pa_cons (pv 0) (pa_cons (pe_callB (lenK K) (by rfl) T.b_len bt_len (pa_cons (pv 4) pa_nil)) pa_nil))))
       (pss_cons
       (ps_set (i := 5) sc_law_turned.nd rfl (by first | exact Or.inl rfl | exact Or.inr rfl) (pe_lst (pa_cons pe_int (pa_cons pe_int (pa_cons pe_int (pa_cons pe_int (pa_cons (pe_un un_neg pe_int) (pa_cons pe_non (pa_cons pe_bl (pa_cons (pe_tup pa_nil) (pa_cons (pe_tup (pa_cons pe_int pa_nil)) (pa_cons (pe_tup (pa_cons pe_int (pa_cons pe_int pa_nil))) (pa_cons (pe_tup (pa_cons pe_int pa_nil)) (pa_cons (pe_lst (pa_cons pe_int pa_nil)) (pa_cons (pe_op (timesK K) (pe_tup (pa_cons pe_int pa_nil)) pe_int) pa_nil)))))))))))))))
       (pss_one
       (ps_ret (pe_op (plusK K) (pe_op (plusK K) (pe_slice (slK K) (pv 2) po_none (po_some (pv 6))) (pe_tup (pa_cons (pe_op (plusK K) (pe_op (plusK K) (pe_slice (slK K) (pv 4) po_none (po_some (pv 7))) (pe_tup (pa_cons (pe_ix (ixK K) (pv 5) (pe_call c_law_next.G (hr.mono (by decide)) rfl c_law_next.m c_law_next.kp c_law_next.b .nil pass0 (pa_cons (pv 0) (pa_cons pe_int pa_nil))) (fun _ _ => rfl)) pa_nil))) (pe_slice (slK K) (pv 4) (po_some (pe_op (plusK K) (pv 7) pe_int)) po_none)) pa_nil))) (pe_slice (slK K) (pv 2) (po_some (pe_op (plusK K) (pv 6) pe_int)) po_none)))))))) pss_nil)
      (pss_one
      (ps_ret (pv 2)))))), ?_⟩
  refine body_S (by decide) h fun p ds Q hT => ?_
  obtain ⟨s, vs, rfl, hw, hn4, hk1, hv, hvs, k0⟩ := hT
  have e1 : ∀ d : D, ([d] : List D).length ≤ 1 := fun d => Nat.le_refl _
  walk_at "w"
  refine ⟨rfl, 5, rfl, by omega, by omega, fun pick hp => ?_⟩
  refine ws_mid (fun ρ' => vs ≠ [] ∧ ρ' = [some (.st p), some (.imm (sysD s)), some (.imm (.tup vs)), some (.imm (.int (pick : Int))), none, none, none, none]) (ws_if ?_) ?_
  · walk_at "w"
    refine rd_eqI ⟨_, rfl, fun hb => ⟨fun _ => ?_, fun z => by cases z⟩, fun hb => ?_⟩
    rotate_left
    refine wt_not (wt_truK ?_)
    walk_at "w"
    refine ⟨_, rfl, fun h => ?_, fun h => ws_next ⟨(fun z => by subst z; cases h), rfl⟩⟩
    all_goals
      walk_at "w"
      refine ⟨rfl, s, rfl, hw, hn4, hk1, fun es hes => ?_⟩
      have he5 : es.length ≤ 5 := by omega
      have c1 := fun lo hi => Nat.le_trans (cutD_len vs lo hi) hv
      have c2 := fun lo hi => Nat.le_trans (cutD_len es lo hi) he5
      walk_at "w"
      refine rc_list (.inl rfl) ?_
      walk_at "w"
      refine we_slice ?_
      walk_at "w"
      refine wo_some ?_
      walk_at "w"
      refine ⟨_, rfl, wo_none ⟨_, rfl, ?_⟩⟩
      walk_at "w"
      refine we_slice ?_
      walk_at "w"
      refine wo_none (wo_some ?_)
      walk_at "w"
      refine ru_neg ⟨_, rfl, _, rfl, ?_⟩
      walk_at "w"
      refine we_revT ?_
      walk_at "w"
      refine ⟨_, rfl, ?_⟩
      walk_at "w"
      refine rd_plusT (plen hv (e1 _)) ?_
      walk_at "w"
      refine rd_plusT (plen hv (e1 _)) ?_
      walk_at "w"
      refine rd_plusT (plen (e1 _) hv) ?_
      walk_at "w"
      refine we_slice ?_
      walk_at "w"
      refine wo_none (wo_some ?_)
      walk_at "w"
      refine ru_neg ⟨_, rfl, _, rfl, ?_⟩
      walk_at "w"
      refine rd_plusT (plen hv (e1 _)) ?_
      walk_at "w"
      refine rd_timesT (by decide) (by decide) (by omega) ?_
      walk_at "w"
      refine rc_list (.inl rfl) ?_
      walk_at "w"
      refine rd_plusT (plen hv (e1 _)) ?_
      walk_at "w"
      refine we_slice ?_
      walk_at "w"
      refine wo_some ?_
      walk_at "w"
      refine ⟨_, rfl, wo_none ⟨_, rfl, ?_⟩⟩
      refine rd_plusT (plen (e1 _) (c2 _ _)) ?_
      walk_at "w"
      refine rd_plusT (plen hv (e1 _)) ?_
      walk_at "w"
      refine rd_plusL (Nat.le_of_ble_eq_true rfl) ?_
      walk_at "w"
      refine rd_plusT (plen he5 (e1 _)) ?_
      walk_at "w"
      refine rd_plusT (plen hv (e1 _)) ?_
      walk_at "w"
      refine we_slice ?_
      walk_at "w"
      refine wo_some ?_
      walk_at "w"
      refine ⟨_, rfl, wo_none ⟨_, rfl, ?_⟩⟩
      refine rd_plusT (plen (e1 _) (c2 _ _)) ?_
      walk_at "w"
      refine rd_plusT (plen hv (e1 _)) ?_
      walk_at "w"
      refine rd_plusL (Nat.le_of_ble_eq_true rfl) ?_
      walk_at "w"
      refine ⟨rfl, 14, rfl, by omega, by omega, fun z hz => ?_⟩
      exact rd_ixL (atI_lt (i := z) (by exact hz)) ⟨_, rfl, k0 _, _, rfl, .inl rfl⟩
  rintro ρ' ⟨hne, rfl⟩
  have hpos : 1 ≤ vs.length := List.length_pos_iff.mpr hne
  have c1 := fun lo hi => Nat.le_trans (cutD_len vs lo hi) hv
  walk_at "w"
  refine rd_B0 ⟨_, rfl, fun hb => ?_, fun hb => ws_next ?_⟩
  rotate_left
  · walk_at "w"
    exact ⟨_, rfl, k0 _, _, rfl, .inl rfl⟩
  walk_at "w"
  refine rc_len (.inl rfl) ?_
  walk_at "w"
  refine ⟨rfl, vs.length, rfl, hpos, by omega, fun i hi => ?_⟩
  obtain ⟨es, hes, he1, he5⟩ := hvs vs[i] (List.getElem_mem hi)
  have c2 := fun lo hi => Nat.le_trans (cutD_len es lo hi) he5
  walk_at "w"
  refine rd_ixT (d := .tup es) (by rw [atI_lt hi, hes]) ?_
  walk_at "w"
  refine rc_len (.inl rfl) ?_
  walk_at "w"
  refine ⟨rfl, es.length, rfl, he1, by omega, fun j hj => ?_⟩
  walk_at "w"
  refine ru_neg ?_
  walk_at "w"
  refine rd_timesT (by decide) (by decide) (by simp) ?_
  walk_at "w"
  refine we_slice ?_
  walk_at "w"
  refine wo_none (wo_some ?_)
  walk_at "w"
  refine ⟨_, rfl, _, rfl, ?_⟩
  walk_at "w"
  refine we_slice ?_
  walk_at "w"
  refine wo_none (wo_some ?_)
  walk_at "w"
  refine ⟨_, rfl, _, rfl, ?_⟩
  walk_at "w"
  refine ⟨rfl, 13, rfl, by omega, by omega, fun z hz => ?_⟩
  refine rd_ixL (atI_lt (i := z) (by exact hz)) ?_
  walk_at "w"
  refine rd_plusT (plen (c2 _ _) (e1 _)) ?_
  refine we_slice ?_
  walk_at "w"
  refine wo_some ?_
  walk_at "w"
  refine rd_plusI ⟨_, rfl, wo_none ⟨_, rfl, ?_⟩⟩
  refine rd_plusT (plen (m := 6) (by rw [List.length_append]; have := c2 none (some (j : Int)); simp; omega) (c2 _ _)) ?_
  walk_at "w"
  refine rd_plusT (plen (c1 _ _) (e1 _)) ?_
  refine we_slice ?_
  walk_at "w"
  refine wo_some ?_
  walk_at "w"
  refine rd_plusI ⟨_, rfl, wo_none ⟨_, rfl, ?_⟩⟩
  refine rd_plusT (plen (m := 11) (by rw [List.length_append]; have := c1 none (some (i : Int)); simp; omega) (c1 _ _)) ?_
  exact ⟨_, rfl, k0 _, _, rfl, .inl rfl⟩
end
end K47

set_option Elab.async false
set_option linter.all false
set_option maxRecDepth 100000
set_option maxHeartbeats 4000000
namespace K47
open PySem L2
local macro_rules | `(tactic| walk_at "w1") => `(tactic| first
  | with_reducible refine ws_seq ?_
  | with_reducible refine ws_ret ?_
  | with_reducible refine ws_asg ?_
  | with_reducible refine ws_drop ?_
  | with_reducible refine ws_if ?_
  | with_reducible refine ws_next ?_
  | ((with_reducible refine' we_var ?hv ?_); (case hv => exact rfl))
  | with_reducible refine we_int ?_
  | with_reducible refine we_bl ?_
  | with_reducible refine we_non ?_
  | with_reducible refine we_str ?_
  | with_reducible refine we_callP ?_
  | ((with_reducible refine' we_callS ?hv ?_); (case hv => exact rfl))
  | ((with_reducible refine' we_ixOl ?hv ?hw ?_); (case hv => exact rfl); (case hw => exact rfl))
  | ((with_reducible refine' we_lenOl ?hv ?_); (case hv => exact rfl))
  | with_reducible refine we_isi (by decide) ?_
  | with_reducible refine we_cb ?_
  | with_reducible refine we_op ?_
  | with_reducible refine we_un ?_
  | with_reducible refine we_chain ?_
  | with_reducible refine we_andV ?_
  | with_reducible refine we_orV ?_
  | with_reducible refine we_notV ?_
  | with_reducible refine we_if ?_
  | with_reducible refine we_tup ?_
  | with_reducible refine we_lst ?_
  | with_reducible refine wa_nil ?_
  | with_reducible refine wa_cons ?_
  | with_reducible refine wt_test ?_
  | with_reducible refine wt_B ?_
  | with_reducible refine wt_not ?_
  | with_reducible refine wt_and ?_
  | with_reducible refine wt_or ?_
  | with_reducible refine wt_yes ?_
  | with_reducible refine wt_truK ?_
  | ((with_reducible refine' len_and ?hl ?_); (case hl => exact Nat.le_of_ble_eq_true rfl)))
local macro_rules | `(tactic| walk_at "w") => `(tactic| repeat walk_at "w1")
section
variable {P : Program} {w : World} {K : PySem.W.Frag} {mg : Str → Option Value} {base : Heap}
theorem sc_law_equal : FnScope ["_law_actual", "_law_due", "_law_at"] ["_law_actual", "_law_due"] (defScope s_law_equal) := ⟨rfl, rfl, rfl, by decide +kernel, rfl, by decide +kernel, by decide +kernel⟩
def T_law_equal_b : List D → (Cell → Prop) → Prop := fun ds Q => ∃ (x y : Bool), ds = [.bl x, .bl y] ∧ Q (.imm (.bl (x == y)))
theorem len_law_equal_b : ∀ ds Q, T_law_equal_b ds Q → ds.length = 2 := fun ds Q ⟨x, y, h, _⟩ => by rw [h]; rfl
theorem ok_law_equal_b {f : Addr} {fd : FuncData} (T : Txt K mg) (F : FnP K "_law_equal" s_law_equal f fd) : FnOk P w K mg base CX0 2 f fd ["_law_actual", "_law_due"] (spP T_law_equal_b) := by
  refine F.ok sc_law_equal (fun vs H Q E h => len_P len_law_equal_b h) (fun cdv A outer s H vs Q E hr h => ?_)
  have hu := hu_of hr
  refine ⟨_, PSs.nox (pss_cons
      (ps_if (pt_cmpR op_isN1 (pv 1) pe_non (nomark _)) (pss_one
       (ps_ret (pe_cmpR op_isN1 (pv 0) pe_non (nomark _)))) pss_nil)
      (pss_cons
      (ps_if (pt_val (pe_callB (isiK K) (by rfl) T.b_isinstance bt_isinstance (pa_cons (pv 1) (pa_cons (pe_bltn (v := .ty "bool") (by rfl) T.b_bool bt_bool rfl) pa_nil)))) (pss_one
       (ps_ret (pe_and (pe_callB (isiK K) (by rfl) T.b_isinstance bt_isinstance (pa_cons (pv 0) (pa_cons (pe_bltn (v := .ty "bool") (by rfl) T.b_bool bt_bool rfl) pa_nil))) (pe_one (pe_cmpR op_eq (pv 0) (pv 1) (nomark _)))))) pss_nil) pss_never)), ?_⟩
  refine body_P h fun ds Q hT => ?_
  obtain ⟨x, y, rfl, k⟩ := hT
  walk_at "w"
  refine rd_isN ⟨_, rfl, (fun z => by cases z), fun _ => ?_⟩
  refine ws_next ?_
  refine ws_seq (ws_ifT ?_)
  walk_at "w"
  refine ⟨_, rfl, rfl, ?_⟩
  walk_at "w"
  refine ⟨_, rfl, fun _ => ?_, fun z => by cases z⟩
  walk_at "w"
  exact rd_eqB k
def T_law_equal_l : List D → (Cell → Prop) → Prop := fun ds Q => ∃ (xs : List Bool), ds = [.lst (xs.map .bl), .lst (xs.map .bl)] ∧ xs.length ≤ 10 ∧ Q (.imm (.bl true))
theorem len_law_equal_l : ∀ ds Q, T_law_equal_l ds Q → ds.length = 2 := fun ds Q ⟨x, h, _⟩ => by rw [h]; rfl
theorem bls_at {xs : List Bool} {i : Nat} (h : i < xs.length) : atI (xs.map D.bl) (i : Int) = some (.bl xs[i]) := atI_nat (by rw [List.getElem?_map, List.getElem?_eq_getElem h]; rfl)
theorem ok_law_equal_l {f : Addr} {fd : FuncData} (T : Txt K mg) (F : FnP K "_law_equal" s_law_equal f fd) {f_law_is_integer : Addr} {fd_law_is_integer : FuncData} (c_law_is_integer : Cal P w K mg base "_law_is_integer" 1 ["_law_actual"] (spP T_law_is_integer) f_law_is_integer fd_law_is_integer) {f_law_equal_b : Addr} {fd_law_equal_b : FuncData} (c_law_equal_b : Cal P w K mg base "_law_equal" 2 ["_law_actual", "_law_due"] (spP T_law_equal_b) f_law_equal_b fd_law_equal_b) : FnOk P w K mg base CX0 3 f fd ["_law_actual", "_law_due"] (spP T_law_equal_l) := by
  refine F.ok sc_law_equal (fun vs H Q E h => len_P len_law_equal_l h) (fun cdv A outer s H vs Q E hr h => ?_)
  have hu := hu_of hr
  refine ⟨_, PSs.nox (pss_cons
      (ps_if (pt_cmpR op_isN1 (pv 1) pe_non (nomark _)) (pss_one
       (ps_ret (pe_cmpR op_isN1 (pv 0) pe_non (nomark _)))) pss_nil)
      (pss_cons
      (ps_if (pt_val (pe_callB (isiK K) (by rfl) T.b_isinstance bt_isinstance (pa_cons (pv 1) (pa_cons (pe_bltn (v := .ty "bool") (by rfl) T.b_bool bt_bool rfl) pa_nil)))) (pss_one
       (ps_ret (pe_and (pe_callB (isiK K) (by rfl) T.b_isinstance bt_isinstance (pa_cons (pv 0) (pa_cons (pe_bltn (v := .ty "bool") (by rfl) T.b_bool bt_bool rfl) pa_nil))) (pe_one (pe_cmpR op_eq (pv 0) (pv 1) (nomark _)))))) pss_nil)
      (pss_cons
      (ps_if (pt_val (pe_callB (isiK K) (by rfl) T.b_isinstance bt_isinstance (pa_cons (pv 1) (pa_cons (pe_bltn (v := .ty "int") (by rfl) T.b_int bt_int rfl) pa_nil)))) (pss_one
       (ps_ret (pe_and (pe_call c_law_is_integer.G (hr.mono (by decide)) rfl c_law_is_integer.m c_law_is_integer.kp c_law_is_integer.b .nil pass0 (pa_cons (pv 0) pa_nil)) (pe_one (pe_cmpR op_eq (pv 0) (pv 1) (nomark _)))))) pss_nil)
      (pss_cons
      (ps_if (pt_val (pe_callB (isiK K) (by rfl) T.b_isinstance bt_isinstance (pa_cons (pv 1) (pa_cons (pe_bltn (v := .ty "str") (by rfl) T.b_str bt_str rfl) pa_nil)))) (pss_one
       (ps_ret (pe_and (pe_callB (isiK K) (by rfl) T.b_isinstance bt_isinstance (pa_cons (pv 0) (pa_cons (pe_bltn (v := .ty "str") (by rfl) T.b_str bt_str rfl) pa_nil))) (pe_one (pe_cmpR op_eq (pv 0) (pv 1) (nomark _)))))) pss_nil)
      (pss_cons
      (ps_if (PW.pt (pw_and (pt_val (pe_callB (isiK K) (by rfl) T.b_isinstance bt_isinstance (pa_cons (pv 1) (pa_cons (pe_bltn (v := .ty "tuple") (by rfl) T.b_tuple bt_tuple rfl) pa_nil)))) (pw_and1 (pt_not (pt_val (pe_callB (isiK K) (by rfl) T.b_isinstance bt_isinstance (pa_cons (pv 0) (pa_cons (pe_bltn (v := .ty "tuple") (by rfl) T.b_tuple bt_tuple rfl) pa_nil)))))))) (pss_one
       (ps_ret pe_bl)) pss_nil)
      (pss_cons
      (ps_if (PW.pt (pw_and (pt_val (pe_callB (isiK K) (by rfl) T.b_isinstance bt_isinstance (pa_cons (pv 1) (pa_cons (pe_bltn (v := .ty "list") (by rfl) T.b_list bt_list rfl) pa_nil)))) (pw_and1 (pt_not (pt_val (pe_callB (isiK K) (by rfl) T.b_isinstance bt_isinstance (pa_cons (pv 0) (pa_cons (pe_bltn (v := .ty "list") (by rfl) T.b_list bt_list rfl) pa_nil)))))))) (pss_one
       (ps_ret pe_bl)) pss_nil)
      (pss_cons
      (ps_if (pt_cmpR op_ne (pe_callB (lenK K) (by rfl) T.b_len bt_len (pa_cons (pv 0) pa_nil)) (pe_callB (lenK K) (by rfl) T.b_len bt_len (pa_cons (pv 1) pa_nil)) (nomark _)) (pss_one
       (ps_ret pe_bl)) pss_nil)
      (pss_one
      (ps_ret (pe_callB (allK K rfl) (by rfl) T.b_all bt_all (pa_cons (pe_lc (own := [("_law_at", 2)]) (g := gName 2) rfl sc_law_equal.nd (pi_range1 rfl T.b_range (pa_cons (pe_callB (lenK K) (by rfl) T.b_len bt_len (pa_cons (pv 1) pa_nil)) pa_nil)) (blkOk_by (own := [("_law_at", 2)]) (N := ["_law_actual", "_law_due", "_law_at"]) (sc := defScope s_law_equal) (by decide +kernel)) (fun _ _ _ _ _ => (pg_name (i := 2) sc_law_equal.nd rfl (by first | exact Or.inl rfl | exact Or.inr rfl))) (fun _ _ _ _ _ => pts_nil) (fun _ _ _ _ _ => (pe_call c_law_equal_b.G (hr.mono (by decide)) rfl c_law_equal_b.m c_law_equal_b.kp c_law_equal_b.b .nil pass0 (pa_cons (pe_ix (ixK K) (pv 0) (pv 2) (fun _ _ => rfl)) (pa_cons (pe_ix (ixK K) (pv 1) (pv 2) (fun _ _ => rfl)) pa_nil))))) pa_nil))))))))))), ?_⟩
  refine body_P h fun ds Q hT => ?_
  obtain ⟨xs, rfl, hl, k⟩ := hT
  walk_at "w"
  refine rd_isN ⟨_, rfl, (fun z => by cases z), fun _ => ws_next ?_⟩
  walk_at "w"
  refine ⟨_, rfl, (fun z => by cases z), fun _ => ws_next ?_⟩
  walk_at "w"
  refine ⟨_, rfl, (fun z => by cases z), fun _ => ws_next ?_⟩
  walk_at "w"
  refine ⟨_, rfl, (fun z => by cases z), fun _ => ws_next ?_⟩
  refine ws_seq (ws_ifF (wt_andF ?_))
  walk_at "w"
  refine ⟨_, rfl, rfl, rfl, ?_⟩
  refine ws_next (ws_seq (ws_ifF (wt_andT ?_)))
  walk_at "w"
  refine ⟨_, rfl, rfl, ?_⟩
  walk_at "w"
  refine ⟨_, rfl, rfl, ?_⟩
  refine ws_next ?_
  walk_at "w"
  refine rc_len (.inr rfl) ?_
  walk_at "w"
  refine rc_len (.inr rfl) ?_
  refine rd_neI ⟨_, rfl, (fun z => by rw [decide_eq_true rfl] at z; cases z), fun _ => ws_next ?_⟩
  walk_at "w"
  refine we_lc (wi_range ?_)
  walk_at "w"
  refine rc_len (.inr rfl) ?_
  walk_at "w"
  refine ⟨xs.length, by rw [List.length_map], by omega, fun i acc ρ' => acc = (List.replicate i true).map D.bl ∧ ρ' = [some (.imm (.lst (xs.map .bl))), some (.imm (.lst (xs.map .bl))), none], by rw [rgD_length]; omega, ⟨rfl, rfl⟩, ?_, ?_⟩
  · rintro i d acc ρ' hd ⟨rfl, rfl⟩
    have hin : i < xs.length := by
      have := (List.getElem?_eq_some_iff.mp hd).1
      rw [rgD_length] at this; exact this
    rw [rgD_get hin] at hd
    cases hd
    refine wgv_name (by decide) ?_
    refine wt_yes ⟨fun _ => ?_, fun z => by cases z⟩
    walk_at "w"
    refine rd_ixL (bls_at hin) ?_
    walk_at "w"
    refine rd_ixL (bls_at hin) ?_
    walk_at "w"
    refine ⟨_, _, rfl, _, rfl, ?_, rfl⟩
    rw [List.replicate_succ', List.map_append]
    simp
  · rintro acc ρ' ⟨rfl, rfl⟩
    walk_at "w"
    refine rc_all rfl ?_
    simp
    exact k
theorem sc_law_stream : FnScope ["_law_script"] ["_law_script"] (defScope s_law_stream) := ⟨rfl, rfl, rfl, by decide +kernel, rfl, by decide +kernel, by decide +kernel⟩
def spScr (K : PySem.W.Frag) : Sp := fun vs H Qc _ => ∃ (a : Addr) (ns : List Int), vs = [.ref a] ∧ SqL K H a (ns.map V.int) ∧ ∀ p F' H', Gr (fun _ => none) H F' H' → CellOk F' H' (.ref p) (.st p) → H p = none → Qc (.ref p) H'
theorem len_R {K : PySem.W.Frag} {vs : List V} {H : Hp} {P : Addr → List Int → Prop} (h : ∃ (a : Addr) (ns : List Int), vs = [.ref a] ∧ SqL K H a (ns.map V.int) ∧ P a ns) : vs.length = 1 := by
  obtain ⟨a, ns, rfl, _⟩ := h
  rfl
theorem ints_len (ns : List Int) : (ns.map V.int).length = ns.length := List.length_map _
theorem ok_law_stream {f : Addr} {fd : FuncData} (T : Txt K mg) (F : FnP K "_law_stream" s_law_stream f fd) : FnOk P w K mg base CX0 1 f fd ["_law_script"] (spScr K) := by
  refine F.ok sc_law_stream (fun vs H Q E h => len_R h) (fun cdv A outer s H vs Q E hr h => ?_)
  have hu := hu_of hr
  refine ⟨_, PSs.nox (pss_one
      (ps_ret (pe_lst (pa_cons (pe_callTy (listK K) (by rfl) T.b_list bt_list (pa_cons (pv 0) pa_nil)) (pa_cons pe_int (pa_cons pe_int pa_nil)))))), ?_⟩
  obtain ⟨a, ns, rfl, hS, k⟩ := h
  refine ⟨_, rfl, a, ns.map V.int, rfl, .inl hS, fun l hl => ⟨Nat.le_of_ble_eq_true rfl, fun p hp => ?_⟩⟩
  have g := Gr.new (F := fun _ => none) (H := H) (fun _ _ h => by cases h) hl (o := .lst (ns.map V.int))
  have np : p ≠ l := fun z => by subst z; rw [upd_same] at hp; cases hp
  have hp0 : H p = none := by rw [upd_ne np] at hp; exact hp
  have fp : upd (fun _ => none) l (HO.lst (ns.map V.int)) p = none := upd_ne np
  refine k p (upd (fun _ => none) l (.lst (ns.map V.int))) _ ⟨⟨g.1.fx, fun b o hb _ => ?_⟩, g.2.mut fp⟩ ⟨rfl, fp, l, ns, 0, 0, upd_same, upd_same, by omega, by omega⟩ hp0
  have nb : b ≠ p := fun z => by subst z; rw [hp0] at hb; cases hb
  obtain ⟨e1, e2⟩ := g.1.keep b o hb fun z => z
  exact ⟨by rw [upd_ne nb]; exact e1, e2⟩
end
end K47

set_option Elab.async false
set_option linter.all false
set_option maxRecDepth 100000
set_option maxHeartbeats 4000000
namespace K47
open PySem L2
local macro_rules | `(tactic| walk_at "w1") => `(tactic| first
  | with_reducible refine ws_seq ?_
  | with_reducible refine ws_ret ?_
  | with_reducible refine ws_asg ?_
  | with_reducible refine ws_drop ?_
  | with_reducible refine ws_if ?_
  | with_reducible refine ws_next ?_
  | ((with_reducible refine' we_var ?hv ?_); (case hv => exact rfl))
  | with_reducible refine we_int ?_
  | with_reducible refine we_bl ?_
  | with_reducible refine we_non ?_
  | with_reducible refine we_str ?_
  | with_reducible refine we_callP ?_
  | ((with_reducible refine' we_callS ?hv ?_); (case hv => exact rfl))
  | ((with_reducible refine' we_ixOl ?hv ?hw ?_); (case hv => exact rfl); (case hw => exact rfl))
  | ((with_reducible refine' we_lenOl ?hv ?_); (case hv => exact rfl))
  | with_reducible refine we_isi (by decide) ?_
  | with_reducible refine we_cb ?_
  | with_reducible refine we_op ?_
  | with_reducible refine we_un ?_
  | with_reducible refine we_chain ?_
  | with_reducible refine we_andV ?_
  | with_reducible refine we_orV ?_
  | with_reducible refine we_notV ?_
  | with_reducible refine we_if ?_
  | with_reducible refine we_tup ?_
  | with_reducible refine we_lst ?_
  | with_reducible refine wa_nil ?_
  | with_reducible refine wa_cons ?_
  | with_reducible refine wt_test ?_
  | with_reducible refine wt_B ?_
  | with_reducible refine wt_not ?_
  | with_reducible refine wt_and ?_
  | with_reducible refine wt_or ?_
  | with_reducible refine wt_yes ?_
  | with_reducible refine wt_truK ?_
  | ((with_reducible refine' len_and ?hl ?_); (case hl => exact Nat.le_of_ble_eq_true rfl)))
local macro_rules | `(tactic| walk_at "w") => `(tactic| repeat walk_at "w1")
/-! ### the rows of the law -/
theorem flat_one (d : D) : ∀ k : Nat, (List.replicate k [d]).flatten = List.replicate k d
  | 0 => rfl
  | k + 1 => by rw [List.replicate_succ, List.flatten_cons, flat_one d k]; rfl
theorem natD_zeros (k : Nat) : (List.replicate k [D.int 0]).flatten = natD (List.replicate k 0) := by
  rw [flat_one]
  unfold natD
  rw [List.map_replicate]
  rfl
def aRow (a k : Nat) : D := .tup [.str sA, .int (a : Int), .int 0, .tup (List.replicate k [D.int 0]).flatten, .tup (List.replicate k [D.int 0]).flatten]
def cRow (a : Nat) : D := .tup [.str sC, .int (a : Int), .int (a : Int), .int 0]
theorem aRow_eq (a k : Nat) : aRow a k = aItem a 0 (List.replicate k 0) (List.replicate k 0) := by
  unfold aRow aItem
  rw [natD_zeros]
  rfl
theorem sq_zeros {s : Sys} (h : 1 ≤ s.k) (k : Nat) : s.Sq (List.replicate k 0) := fun c hc => by
  rw [(List.mem_replicate.mp hc).2]; omega
theorem pair_aRow {s : Sys} {B : List Nat} {a k : Nat} (ha : Rc s a) (hk1 : 1 ≤ s.k) (hk : k ≤ 64) : ∃ x, s.pairOf B (aRow a k) = some (x, x) := by
  rw [aRow_eq]
  exact ⟨_, Sys.pair_a ha (by omega) (sq_zeros hk1 k) (sq_zeros hk1 k) (by rw [List.length_replicate]; exact hk) (by rw [List.length_replicate]; exact hk) rfl⟩
theorem pair_aRow_no {s : Sys} {B : List Nat} {a k : Nat} (hk : ¬ k ≤ 64) : s.pairOf B (aRow a k) = none := by
  rw [aRow_eq]
  show s.tailP B sA [_, _, _, _] = none
  rw [tailP_a]
  refine actP_nq ?_
  rw [Sys.sq_tup, if_neg (by rw [natD_length, List.length_replicate]; exact hk)]
theorem pair_cRow {s : Sys} {B : List Nat} {a : Nat} (ha : Rc s a) (hk1 : 1 ≤ s.k) : ∃ x, s.pairOf B (cRow a) = some (x, x) :=
  ⟨_, Sys.pair_c ha ha (show 0 < s.k by omega) rfl⟩
theorem run_same {s : Sys} {B : List Nat} {d : D} (h : ∃ x, s.pairOf B d = some (x, x)) : s.run B [d] = some B := by
  obtain ⟨x, h⟩ := h
  rw [Sys.run_cons, h]
  show some (joinB B x x) = some B
  rw [joinB_same rfl]
theorem run_rep {s : Sys} {B : List Nat} {d : D} (h : ∃ x, s.pairOf B d = some (x, x)) : ∀ k : Nat, s.run B (List.replicate k d) = some B
  | 0 => rfl
  | k + 1 => by
    rw [List.replicate_succ, show d :: List.replicate k d = [d] ++ List.replicate k d from rfl, Sys.run_append, run_same h]
    exact run_rep h k
def rowA (ds : List D) (a k : Nat) : D := .tup (ds ++ [aRow a k])
def rowC (ds : List D) (a k : Nat) : D := .tup (ds ++ (List.replicate ((k : Int) - (ds.length : Int)).toNat [cRow a]).flatten)
section
variable {s : Sys} {B : List Nat} {X : SL} {a b : Nat} (hC : s.Cl B X) (hT : bl B a = bl B b) (ha : Rc s a) (hk1 : 1 ≤ s.k)
include hC hT
theorem acc_told : s.acc a b (.tup (X.map (·.1))) = true := by
  rw [Sys.acc_some (by rw [List.length_map]; have := hC.len; omega) hC.run, decide_eq_true hT]
include ha hk1
theorem acc_A64 : s.acc a b (rowA (X.map (·.1)) a 64) = true := by
  unfold rowA
  rw [Sys.acc_some (B := B) (by rw [List.length_append, List.length_map]; have := hC.len; simp; omega) (by rw [Sys.run_append, hC.run]; exact run_same (pair_aRow ha hk1 (by omega))), decide_eq_true hT]
theorem acc_A65 : s.acc a b (rowA (X.map (·.1)) a 65) = false := by
  refine Sys.acc_none ?_
  rw [Sys.run_append, hC.run]
  show s.run B [aRow a 65] = none
  rw [Sys.run_cons, pair_aRow_no (by omega)]
theorem acc_C100 : s.acc a b (rowC (X.map (·.1)) a 100) = true := by
  unfold rowC
  have hl := hC.len
  have e : (((100 : Nat) : Int) - ((X.map (·.1)).length : Int)).toNat = 100 - X.length := by rw [List.length_map]; omega
  rw [flat_one, e]
  rw [Sys.acc_some (B := B) (by rw [List.length_append, List.length_map, List.length_replicate]; omega) (by rw [Sys.run_append, hC.run]; exact run_rep (pair_cRow ha hk1) _), decide_eq_true hT]
theorem acc_C101 : s.acc a b (rowC (X.map (·.1)) a 101) = false := by
  unfold rowC
  have hl := hC.len
  have e : (((101 : Nat) : Int) - ((X.map (·.1)).length : Int)).toNat = 101 - X.length := by rw [List.length_map]; omega
  rw [flat_one, e]
  exact Sys.acc_long (by rw [List.length_append, List.length_map, List.length_replicate]; omega)
end
/-- told steps are tuples of four, five -/
theorem pairOf_shape {s : Sys} {B : List Nat} {d : D} {p : Nat × Nat} (h : s.pairOf B d = some p) : ∃ es, d = .tup es ∧ 1 ≤ es.length ∧ es.length ≤ 5 := by
  cases d with
  | tup es =>
    refine ⟨es, rfl, ?_⟩
    by_cases h4 : es.length = 4
    · omega
    · by_cases h5 : es.length = 5
      · omega
      · rw [pairOf_len h4 h5] at h; cases h
  | _ => cases h
theorem run_shape {s : Sys} : ∀ {ds : List D} {B C : List Nat}, s.run B ds = some C → ∀ d ∈ ds, ∃ es, d = .tup es ∧ 1 ≤ es.length ∧ es.length ≤ 5
  | [], _, _, _, d, h => by cases h
  | e :: ds, B, C, h, d, hd => by
    rw [Sys.run_cons] at h
    cases hp : s.pairOf B e with
    | none => rw [hp] at h; cases h
    | some p =>
      rw [hp] at h
      rcases List.mem_cons.mp hd with z | z
      · rw [z]; exact pairOf_shape hp
      · exact run_shape h d z
theorem tabs_ints (ts : List (List Nat)) : tabsD ts = (ts.map fun t => t.map fun x : Nat => (x : Int)).map fun t => D.tup (t.map D.int) := by
  unfold tabsD
  rw [List.map_map]
  refine List.map_congr_left fun t _ => ?_
  show D.tup (natD t) = D.tup _
  rw [natD_ints]
abbrev Okv (vs : List D) : Prop := vs.length ≤ 10 ∧ ∀ d ∈ vs, ∃ es, d = .tup es ∧ 1 ≤ es.length ∧ es.length ≤ 5
def lwR (p : Addr) (es : D) (s : Sys) (rs : List D) (a b : Nat) (t : Bool) (told : D) (ms : List D) (C : List Nat) (x11 x12 x13 x14 x15 x16 x17 : Option Cell) : Rho := [none, some (.st p), some (.imm (sysD s)), some (.imm es), some (.imm (.lst rs)), some (.imm (.int (a : Int))), some (.imm (.int (b : Int))), some (.imm (.bl t)), some (.imm told), some (.imm (.tup ms)), some (.imm (.lst (natD C))), x11, x12, x13, x14, x15, x16, x17, none, none, none]
theorem flat_len (d : D) (k : Nat) : (List.replicate k [d]).flatten.length = k := by rw [flat_one, List.length_replicate]
theorem one_len (d : D) : ([d] : List D).length ≤ 1 := Nat.le_refl _
theorem law_start {K : PySem.W.Frag} {N : List Str} {H : Hp} {Qc : VK} {a : Addr} {ns : List Int} {ts : TS} (hS : SqL K H a (ns.map V.int)) (w : ∀ p : Addr, WS ts ((List.replicate N.length none).set 1 (some (.st p))) (fun _ => False) (fun c _ => c = .imm (.bl true))) (k : ∀ H', Qc (.bl true) H') (hN : 0 < N.length := by decide) :
    tSeq (tAsg (tCall (spScr K) [] E0 (tCons (tVar 0) tNil)) (gName 1)) ts { nx := fun _ H' => Qc .non H', rt := Qc } (L2.start N [.ref a]) H := by
  have nO : ∀ {m : Nat} {q : Addr}, ¬ Own (List.replicate m none) q := fun {m q} ⟨i, c, h, _⟩ => by
    rw [List.getElem?_replicate] at h
    split at h <;> cases h
  have E0' : Env (fun _ => none) H (L2.start N [.ref a]) (List.replicate N.length none) := by
    refine ⟨by unfold L2.start; simp; omega, (fun _ _ h => by cases h), fun i c h => ?_, fun i j ci cj p h => ?_⟩
    · rw [List.getElem?_replicate] at h
      split at h <;> cases h
    · rw [List.getElem?_replicate] at h
      split at h <;> cases h
  have hs : (L2.start N [.ref a])[0]? = some (some (V.ref a)) := rfl
  refine ⟨_, hs, a, ns, rfl, hS, fun p F' H' g hc hp => ?_⟩
  have E1 := (E0'.step g).set 1 (c := .st p) (v := .ref p) hc fun q _ => nO
  exact w p _ F' H' E1 _ (fun _ _ _ _ z => z.elim) fun c ρ' σ' v F2 H2 e E' T' hc' _ => by
    subst e
    have e : v = .bl true := hc'
    subst e
    exact k H2

section
variable {P : Program} {w : World} {K : PySem.W.Frag} {mg : Str → Option Value} {base : Heap}
theorem sc_law : FnScope ["_law_script", "_law_stream_here", "_law_system_here", "_law_blocks", "_law_reachable_here", "_law_one", "_law_other", "_law_together", "_law_told", "_law_made", "_law_here", "_law_turn", "_law_item_here", "_law_pair_here", "_law_step", "_law_rows", "_law_value", "_law_due", "_law_number", "_law_many", "_law_row"] ["_law_script"] (defScope s_law) := ⟨rfl, rfl, rfl, by decide +kernel, rfl, by decide +kernel, by decide +kernel⟩
def spLaw (K : PySem.W.Frag) : Sp := fun vs H Qc _ => ∃ (a : Addr) (ns : List Int), vs = [.ref a] ∧ SqL K H a (ns.map V.int) ∧ ∀ H', Qc (.bl true) H'
theorem ok_law {f : Addr} {fd : FuncData} (T : Txt K mg) (F : FnP K "law" s_law f fd) {f_law_stream : Addr} {fd_law_stream : FuncData} (c_law_stream : Cal P w K mg base "_law_stream" 1 ["_law_script"] (spScr K) f_law_stream fd_law_stream) {f_law_some_system : Addr} {fd_law_some_system : FuncData} (c_law_some_system : Cal P w K mg base "_law_some_system" 3 ["_law_stream_here"] (spS T_law_some_system) f_law_some_system fd_law_some_system) {f_finest : Addr} {fd_finest : FuncData} (c_finest : Cal P w K mg base "finest" 8 ["system"] (spP T_finest) f_finest fd_finest) {f_law_reachable : Addr} {fd_law_reachable : FuncData} (c_law_reachable : Cal P w K mg base "_law_reachable" 2 ["_law_system_here"] (spP T_law_reachable) f_law_reachable fd_law_reachable) {f_law_next : Addr} {fd_law_next : FuncData} (c_law_next : Cal P w K mg base "_law_next" 1 ["_law_stream_here", "_law_many"] (spS T_law_next) f_law_next fd_law_next) {f_joins : Addr} {fd_joins : FuncData} (c_joins : Cal P w K mg base "joins" 7 ["system", "one", "other"] (spP T_joins) f_joins fd_joins) {f_law_item : Addr} {fd_law_item : FuncData} (c_law_item : Cal P w K mg base "_law_item" 3 ["_law_stream_here", "_law_system_here"] (spS T_law_item) f_law_item fd_law_item) {f_law_pair : Addr} {fd_law_pair : FuncData} (c_law_pair : Cal P w K mg base "_law_pair" 3 ["_law_system_here", "_law_blocks", "_law_value"] (spP T_law_pair) f_law_pair fd_law_pair) {f_accepts_joins : Addr} {fd_accepts_joins : FuncData} (c_accepts_joins : Cal P w K mg base "accepts_joins" 6 ["system", "one", "other", "value"] (spP T_accepts_joins) f_accepts_joins fd_accepts_joins) {f_law_accepted : Addr} {fd_law_accepted : FuncData} (c_law_accepted : Cal P w K mg base "_law_accepted" 4 ["_law_system_here", "_law_one", "_law_other", "_law_value"] (spP T_law_accepted) f_law_accepted fd_law_accepted) {f_law_equal_l : Addr} {fd_law_equal_l : FuncData} (c_law_equal_l : Cal P w K mg base "_law_equal" 3 ["_law_actual", "_law_due"] (spP T_law_equal_l) f_law_equal_l fd_law_equal_l) {f_law_turned : Addr} {fd_law_turned : FuncData} (c_law_turned : Cal P w K mg base "_law_turned" 4 ["_law_stream_here", "_law_system_here", "_law_value"] (spS T_law_turned) f_law_turned fd_law_turned) {f_law_equal_b : Addr} {fd_law_equal_b : FuncData} (c_law_equal_b : Cal P w K mg base "_law_equal" 2 ["_law_actual", "_law_due"] (spP T_law_equal_b) f_law_equal_b fd_law_equal_b) : FnOk P w K mg base CX0 9 f fd ["_law_script"] (spLaw K) := by
  refine F.ok sc_law (fun vs H Q E h => len_R h) (fun cdv A outer s H vs Q E hr h => ?_)
  have hu := hu_of hr
  refine ⟨_, PSs.nox (pss_cons
      (ps_set (i := 1) sc_law.nd rfl (by first | exact Or.inl rfl | exact Or.inr rfl) (pe_call c_law_stream.G (hr.mono (by decide)) rfl c_law_stream.m c_law_stream.kp c_law_stream.b .nil pass0 (pa_cons (pv 0) pa_nil)))
      (pss_cons
      (ps_set (i := 2) sc_law.nd rfl (by first | exact Or.inl rfl | exact Or.inr rfl) (pe_call c_law_some_system.G (hr.mono (by decide)) rfl c_law_some_system.m c_law_some_system.kp c_law_some_system.b .nil pass0 (pa_cons (pv 1) pa_nil)))
      (pss_cons
      (ps_if (pt_cmpR (eqDK K hr.units) (pe_ix (ixK K) (pv 2) pe_int (fun _ _ => rfl)) (pe_tup pa_nil) (nomark _)) (pss_one
       (ps_ret pe_bl)) pss_nil)
      (pss_cons
      (ps_set (i := 3) sc_law.nd rfl (by first | exact Or.inl rfl | exact Or.inr rfl) (pe_call c_finest.G (hr.mono (by decide)) rfl c_finest.m c_finest.kp c_finest.b .nil pass0 (pa_cons (pv 2) pa_nil)))
      (pss_cons
      (ps_set (i := 4) sc_law.nd rfl (by first | exact Or.inl rfl | exact Or.inr rfl) (pe_call c_law_reachable.G (hr.mono (by decide)) rfl c_law_reachable.m c_law_reachable.kp c_law_reachable.b .nil pass0 (pa_cons (pv 2) pa_nil)))
      (pss_cons
      (ps_set (i := 5) sc_law.nd rfl (by first | exact Or.inl rfl | exact Or.inr rfl) (pe_ix (ixK K) (pv 4) (pe_call c_law_next.G (hr.mono (by decide)) rfl c_law_next.m c_law_next.kp c_law_next.b .nil pass0 (pa_cons (pv 1) (pa_cons (pe_callB (lenK K) (by rfl) T.b_len bt_len (pa_cons (pv 4) pa_nil)) pa_nil))) (fun _ _ => rfl)))
      (pss_cons
      (ps_set (i := 6) sc_law.nd rfl (by first | exact Or.inl rfl | exact Or.inr rfl) (pe_ix (ixK K) (pv 4) (pe_call c_law_next.G (hr.mono (by decide)) rfl c_law_next.m c_law_next.kp c_law_next.b .nil pass0 (pa_cons (pv 1) (pa_cons (pe_callB (lenK K) (by rfl) T.b_len bt_len (pa_cons (pv 4) pa_nil)) pa_nil))) (fun _ _ => rfl)))
      (pss_cons
      (ps_set (i := 7) sc_law.nd rfl (by first | exact Or.inl rfl | exact Or.inr rfl) (pe_cmpR op_eq (pe_ix (ixK K) (pv 3) (pv 5) (fun _ _ => rfl)) (pe_ix (ixK K) (pv 3) (pv 6) (fun _ _ => rfl)) (nomark _)))
      (pss_cons
      (ps_set (i := 8) sc_law.nd rfl (by first | exact Or.inl rfl | exact Or.inr rfl) (pe_call c_joins.G (hr.mono (by decide)) rfl c_joins.m c_joins.kp c_joins.b .nil pass0 (pa_cons (pv 2) (pa_cons (pv 5) (pa_cons (pv 6) pa_nil)))))
      (pss_cons
      (ps_if (pt_cmpR op_eq (pe_cmpR op_isN1 (pv 8) pe_non (nomark _)) (pv 7) (nomark _)) (pss_one
       (ps_ret pe_bl)) pss_nil)
      (pss_cons
      (ps_set (i := 9) sc_law.nd rfl (by first | exact Or.inl rfl | exact Or.inr rfl) (pe_tup pa_nil))
      (pss_cons
      (ps_set (i := 10) sc_law.nd rfl (by first | exact Or.inl rfl | exact Or.inr rfl) (pe_listRg rfl rfl T.b_list (prg_1 rfl T.b_range (pe_ix (ixK K) (pv 2) pe_int (fun _ _ => rfl)))))
      (pss_cons
      (ps_for PassesOwn.never rfl (pi_range1 rfl T.b_range (pa_cons pe_int pa_nil)) (pg_name (i := 11) sc_law.nd rfl (by first | exact Or.inl rfl | exact Or.inr rfl)) (pss_cons
       (ps_set (i := 12) sc_law.nd rfl (by first | exact Or.inl rfl | exact Or.inr rfl) (pe_call c_law_item.G (hr.mono (by decide)) rfl c_law_item.m c_law_item.kp c_law_item.b .nil pass0 (pa_cons (pv 1) (pa_cons (pv 2) pa_nil))))
       (pss_cons
       (ps_set (i := 13) sc_law.nd rfl (by first | exact Or.inl rfl | exact Or.inr rfl) (pe_call c_law_pair.G (hr.mono (by decide)) rfl c_law_pair.m c_law_pair.kp c_law_pair.b .nil pass0 (pa_cons (pv 2) (pa_cons (pv 10) (pa_cons (pv 12) pa_nil)))))
       (pss_one
       (ps_if (pt_cmpR op_notN1 (pv 13) pe_non (nomark _)) (pss_cons
        (ps_set (i := 9) sc_law.nd rfl (by first | exact Or.inl rfl | exact Or.inr rfl) (pe_op (plusK K) (pv 9) (pe_tup (pa_cons (pv 12) pa_nil))))
        (pss_one
        (ps_set (i := 10) sc_law.nd rfl (by first | exact Or.inl rfl | exact Or.inr rfl) (pe_lc (own := [("_law_number", 18)]) (g := gName 18) rfl sc_law.nd (piLK K (pv 10)) (blkOk_by (own := [("_law_number", 18)]) (N := ["_law_script", "_law_stream_here", "_law_system_here", "_law_blocks", "_law_reachable_here", "_law_one", "_law_other", "_law_together", "_law_told", "_law_made", "_law_here", "_law_turn", "_law_item_here", "_law_pair_here", "_law_step", "_law_rows", "_law_value", "_law_due", "_law_number", "_law_many", "_law_row"]) (sc := defScope s_law) (by decide +kernel)) (fun _ _ _ _ _ => (pg_name (i := 18) sc_law.nd rfl (by first | exact Or.inl rfl | exact Or.inr rfl))) (fun _ _ _ _ _ => pts_nil) (fun _ _ _ _ _ => (pe_ix (ixK K) (pe_lst (pa_cons (pv 18) (pa_cons (pe_ix (ixK K) (pv 10) (pe_ix (ixK K) (pv 13) pe_int (fun _ _ => rfl)) (fun _ _ => rfl)) pa_nil))) (pe_callTy call_int1 (by rfl) T.b_int bt_int (pa_cons (pe_cmpR op_eq (pv 18) (pe_ix (ixK K) (pv 10) (pe_ix (ixK K) (pv 13) pe_int (fun _ _ => rfl)) (fun _ _ => rfl)) (nomark _)) pa_nil)) (fun _ _ => rfl))))))) pss_nil)))))
      (pss_cons
      (ps_if (pt_cmpR op_notN1 (pv 8) pe_non (nomark _)) (pss_cons
       (ps_if (PW.pt (pw_or (pt_not (pt_val (pe_call c_law_accepted.G (hr.mono (by decide)) rfl c_law_accepted.m c_law_accepted.kp c_law_accepted.b .nil pass0 (pa_cons (pv 2) (pa_cons (pv 5) (pa_cons (pv 6) (pa_cons (pv 8) pa_nil))))))) (pw_or1 (pt_cmpR op_notBl (pe_call c_accepts_joins.G (hr.mono (by decide)) rfl c_accepts_joins.m c_accepts_joins.kp c_accepts_joins.b .nil pass0 (pa_cons (pv 2) (pa_cons (pv 5) (pa_cons (pv 6) (pa_cons (pv 8) pa_nil))))) pe_bl (nomark _))))) (pss_one
        (ps_ret pe_bl)) pss_nil)
       (pss_cons
       (ps_set (i := 14) sc_law.nd rfl (by first | exact Or.inl rfl | exact Or.inr rfl) (pe_tup (pa_cons pe_str (pa_cons (pv 5) (pa_cons (pv 5) (pa_cons pe_int pa_nil))))))
       (pss_cons
       (ps_setLc (i := 15) (own := [("_law_many", 19)]) (g := gName 19) rfl sc_law.nd rfl rfl (sw_true rfl rfl rfl (by decide +kernel)) (piLK K (pe_lst (pa_cons pe_int (pa_cons pe_int pa_nil)))) (blkOk_by (own := [("_law_many", 19)]) (N := ["_law_script", "_law_stream_here", "_law_system_here", "_law_blocks", "_law_reachable_here", "_law_one", "_law_other", "_law_together", "_law_told", "_law_made", "_law_here", "_law_turn", "_law_item_here", "_law_pair_here", "_law_step", "_law_rows", "_law_value", "_law_due", "_law_number", "_law_many", "_law_row"]) (sc := defScope s_law) (by decide +kernel)) (fun _ _ _ _ _ => (pg_name (i := 19) sc_law.nd rfl (by first | exact Or.inl rfl | exact Or.inr rfl))) (fun _ _ _ _ _ => pts_nil) (fun _ _ _ _ _ => (pe_op (plusK K) (pv 8) (pe_tup (pa_cons (pe_tup (pa_cons pe_str (pa_cons (pv 5) (pa_cons pe_int (pa_cons (pe_op (timesK K) (pe_tup (pa_cons pe_int pa_nil)) (pv 19)) (pa_cons (pe_op (timesK K) (pe_tup (pa_cons pe_int pa_nil)) (pv 19)) pa_nil)))))) pa_nil)))))
       (pss_cons
       (ps_set (i := 15) sc_law.nd rfl (by first | exact Or.inl rfl | exact Or.inr rfl) (pe_op (plusK K) (pv 15) (pe_lc (own := [("_law_many", 19)]) (g := gName 19) rfl sc_law.nd (piLK K (pe_lst (pa_cons pe_int (pa_cons pe_int pa_nil)))) (blkOk_by (own := [("_law_many", 19)]) (N := ["_law_script", "_law_stream_here", "_law_system_here", "_law_blocks", "_law_reachable_here", "_law_one", "_law_other", "_law_together", "_law_told", "_law_made", "_law_here", "_law_turn", "_law_item_here", "_law_pair_here", "_law_step", "_law_rows", "_law_value", "_law_due", "_law_number", "_law_many", "_law_row"]) (sc := defScope s_law) (by decide +kernel)) (fun _ _ _ _ _ => (pg_name (i := 19) sc_law.nd rfl (by first | exact Or.inl rfl | exact Or.inr rfl))) (fun _ _ _ _ _ => pts_nil) (fun _ _ _ _ _ => (pe_op (plusK K) (pv 8) (pe_op (timesK K) (pe_tup (pa_cons (pv 14) pa_nil)) (pe_op op_sub (pv 19) (pe_callB (lenK K) (by rfl) T.b_len bt_len (pa_cons (pv 8) pa_nil)))))))))
       (pss_one
       (ps_if (PW.pt (pw_and (pt_cmpR op_lt (pe_callB (lenK K) (by rfl) T.b_len bt_len (pa_cons (pv 8) pa_nil)) pe_int (nomark _)) (pw_and1 (pt_not (pt_val (pe_call c_law_equal_l.G (hr.mono (by decide)) rfl c_law_equal_l.m c_law_equal_l.kp c_law_equal_l.b .nil pass0 (pa_cons (pe_lc (own := [("_law_row", 20)]) (g := gName 20) rfl sc_law.nd (piLK K (pv 15)) (blkOk_by (own := [("_law_row", 20)]) (N := ["_law_script", "_law_stream_here", "_law_system_here", "_law_blocks", "_law_reachable_here", "_law_one", "_law_other", "_law_together", "_law_told", "_law_made", "_law_here", "_law_turn", "_law_item_here", "_law_pair_here", "_law_step", "_law_rows", "_law_value", "_law_due", "_law_number", "_law_many", "_law_row"]) (sc := defScope s_law) (by decide +kernel)) (fun _ _ _ _ _ => (pg_name (i := 20) sc_law.nd rfl (by first | exact Or.inl rfl | exact Or.inr rfl))) (fun _ _ _ _ _ => pts_nil) (fun _ _ _ _ _ => (pe_call c_accepts_joins.G (hr.mono (by decide)) rfl c_accepts_joins.m c_accepts_joins.kp c_accepts_joins.b .nil pass0 (pa_cons (pv 2) (pa_cons (pv 5) (pa_cons (pv 6) (pa_cons (pv 20) pa_nil))))))) (pa_cons (pe_lst (pa_cons pe_bl (pa_cons pe_bl (pa_cons pe_bl (pa_cons pe_bl pa_nil))))) pa_nil)))))))) (pss_one
        (ps_ret pe_bl)) pss_nil)))))) pss_nil)
      (pss_cons
      (ps_for PassesOwn.never rfl (pi_range1 rfl T.b_range (pa_cons pe_int pa_nil)) (pg_name (i := 11) sc_law.nd rfl (by first | exact Or.inl rfl | exact Or.inr rfl)) (pss_cons
       (ps_set (i := 16) sc_law.nd rfl (by first | exact Or.inl rfl | exact Or.inr rfl) (pv 9))
       (pss_cons
       (ps_if (PW.pt (pw_and (pt_cmpR op_notN1 (pv 8) pe_non (nomark _)) (pw_and1 (pt_cmpR op_gt (pv 11) pe_int (nomark _))))) (pss_one
        (ps_set (i := 16) sc_law.nd rfl (by first | exact Or.inl rfl | exact Or.inr rfl) (pv 8))) pss_nil)
       (pss_cons
       (ps_if (pt_cmpR op_ne (pv 11) pe_int (nomark _)) (pss_one
        (ps_set (i := 16) sc_law.nd rfl (by first | exact Or.inl rfl | exact Or.inr rfl) (pe_call c_law_turned.G (hr.mono (by decide)) rfl c_law_turned.m c_law_turned.kp c_law_turned.b .nil pass0 (pa_cons (pv 1) (pa_cons (pv 2) (pa_cons (pv 16) pa_nil)))))) pss_nil)
       (pss_cons
       (ps_set (i := 17) sc_law.nd rfl (by first | exact Or.inl rfl | exact Or.inr rfl) (pe_call c_law_accepted.G (hr.mono (by decide)) rfl c_law_accepted.m c_law_accepted.kp c_law_accepted.b .nil pass0 (pa_cons (pv 2) (pa_cons (pv 5) (pa_cons (pv 6) (pa_cons (pv 16) pa_nil))))))
       (pss_one
       (ps_if (PW.pt (pw_or (pt_not (pt_val (pe_call c_law_equal_b.G (hr.mono (by decide)) rfl c_law_equal_b.m c_law_equal_b.kp c_law_equal_b.b .nil pass0 (pa_cons (pe_call c_accepts_joins.G (hr.mono (by decide)) rfl c_accepts_joins.m c_accepts_joins.kp c_accepts_joins.b .nil pass0 (pa_cons (pv 2) (pa_cons (pv 5) (pa_cons (pv 6) (pa_cons (pv 16) pa_nil))))) (pa_cons (pv 17) pa_nil))))) (pw_or1 (PW.pt (pw_and (truK K (pv 17) (by intro _; rfl)) (pw_and1 (pt_not (truK K (pv 7) (by intro _; rfl))))))))) (pss_one
        (ps_ret pe_bl)) pss_nil)))))))
      (pss_one
      (ps_ret pe_bl))))))))))))))))), ?_⟩
  obtain ⟨a0, ns, rfl, hS, k0⟩ := h
  refine law_start hS (fun p => ?_) k0
  walk_at "w"
  refine ⟨rfl, rfl, fun s hw hn4 => ?_⟩
  have hk4 := hw.k4
  have hk4 : s.k ≤ 4 := hk4
  have hrn := reach_len s
  have hr0 := hw.reach_pos
  walk_at "w"
  refine rd_ixT (d := .tup (tabsD s.cmds)) rfl ?_
  walk_at "w"
  rw [tabs_ints]
  refine rd_eqNil ⟨_, rfl, fun hb => ?_, fun hb => ws_next ?_⟩
  · walk_at "w"
    exact rfl
  have hk1 : 1 ≤ s.k := by
    unfold Sys.k
    cases h : s.cmds with
    | nil => rw [h] at hb; cases hb
    | cons t ts => exact Nat.succ_le_succ (Nat.zero_le _)
  walk_at "w"
  refine ⟨s, rfl, hw, fun es ⟨hel, B, X, g, hC, hg, hgB⟩ => ⟨_, rfl, ?_⟩⟩
  walk_at "w"
  refine ⟨s, rfl, hw, hn4, _, rfl, ?_⟩
  walk_at "w"
  refine rc_len (.inr rfl) ?_
  walk_at "w"
  refine ⟨rfl, s.reach.length, by rw [natD_length], hr0, by omega, fun i hi => ?_⟩
  refine rd_ixL (natD_nth hi) ?_
  have ha := hw.mem_reach.mp (List.getElem_mem hi)
  revert ha
  generalize s.reach[i] = a
  intro ha
  walk_at "w"
  refine rc_len (.inr rfl) ?_
  walk_at "w"
  refine ⟨rfl, s.reach.length, by rw [natD_length], hr0, by omega, fun j hj => ?_⟩
  refine rd_ixL (natD_nth hj) ?_
  have hb2 := hw.mem_reach.mp (List.getElem_mem hj)
  revert hb2
  generalize s.reach[j] = b
  intro hb2
  have han := ha.lt hw
  have hbn := hb2.lt hw
  walk_at "w"
  refine rd_ixT (atI_nat (hg a ha)) ?_
  walk_at "w"
  refine rd_ixT (atI_nat (hg b hb2)) ?_
  refine rd_eqI ?_
  rw [dec_cast, show decide (g a = g b) = decide (bl B a = bl B b) from decide_eq_decide.mpr (hgB a b ha hb2)]
  walk_at "w"
  refine ⟨s, a, b, rfl, hw, ha, hb2, fun B2 X2 hC2 => ⟨_, rfl, ?_⟩⟩
  have hsame := hC2.same hw hC han hbn
  obtain ⟨t, told, ht, htold, hT⟩ : ∃ (t : Bool) (told : D), decide (bl B a = bl B b) = t ∧ (if bl B2 a = bl B2 b then D.tup (X2.map (·.1)) else .non) = told ∧ ((t = true ∧ bl B2 a = bl B2 b ∧ told = .tup (X2.map (·.1))) ∨ (t = false ∧ told = .non)) := by
    by_cases h : bl B2 a = bl B2 b
    · exact ⟨true, _, decide_eq_true (hsame.mp h), if_pos h, .inl ⟨rfl, h, rfl⟩⟩
    · exact ⟨false, _, decide_eq_false fun z => h (hsame.mpr z), if_neg h, .inr ⟨rfl, rfl⟩⟩
  rw [ht, htold]
  walk_at "w"
  refine rd_isN ?_
  walk_at "w"
  refine rd_eqB ⟨_, rfl, fun hz => ?_, fun hz => ws_next ?_⟩
  · exfalso
    rcases hT with ⟨rfl, _, rfl⟩ | ⟨rfl, rfl⟩
    · cases hz
    · cases hz
  walk_at "w"
  refine we_listRg ?_
  walk_at "w"
  refine rd_ixT (d := .int (s.n : Int)) rfl ?_
  refine ⟨s.n, rfl, by omega, ?_⟩
  refine ws_mid (fun ρ' => ∃ ms C x11 x12 x13, Okv ms ∧ ρ' = lwR p (.tup es) s (natD s.reach) a b t told ms C x11 x12 x13 none none none none) ?_ ?_
  · refine ws_for (wi_range ?_)
    walk_at "w"
    refine ⟨6, rfl, by omega, fun i ρ' => ∃ ms C x11 x12 x13, ms.length ≤ i ∧ (∀ d ∈ ms, ∃ es, d = .tup es ∧ 1 ≤ es.length ∧ es.length ≤ 5) ∧ C.length = s.n ∧ ρ' = lwR p (.tup es) s (natD s.reach) a b t told ms C x11 x12 x13 none none none none, ⟨[], List.range s.n, none, none, none, Nat.le_refl _, (fun d h => by cases h), List.length_range, rfl⟩, ?_, ?_⟩
    · rintro i d ρ' hd ⟨ms, C, x11, x12, x13, hml, hms, hCl, rfl⟩
      have hi6 : i < 6 := by
        have := (List.getElem?_eq_some_iff.mp hd).1
        rw [rgD_length] at this; exact this
      refine wg_name ?_
      walk_at "w"
      refine ⟨rfl, s, rfl, hw, hn4, hk1, fun vs hvs => ?_⟩
      walk_at "w"
      refine ⟨s, C, .tup vs, rfl, hw, hn4, hCl, _, rfl, ?_⟩
      walk_at "w"
      cases hp : s.pairOf C (.tup vs) with
      | none =>
        refine rd_notN ⟨_, rfl, (fun z => by cases z), fun _ => ws_next ?_⟩
        exact ⟨ms, C, _, _, _, by omega, hms, hCl, rfl⟩
      | some q =>
        obtain ⟨p1, p2⟩ := hw.pairOf_lt hp
        refine rd_notN ⟨_, rfl, (fun _ => ?_), fun z => by cases z⟩
        walk_at "w"
        refine rd_plusT (by simp; omega) ?_
        walk_at "w"
        refine we_lc (wi_list (we_var (d := .lst (natD C)) rfl ⟨_, rfl, fun j acc ρ' => acc = natD ((joinB C q.1 q.2).take j) ∧ ρ' = lwR p (.tup es) s (natD s.reach) a b t told (ms ++ [.tup vs]) C (some (.imm d)) (some (.imm (.tup vs))) (some (.imm (pD (ip q)))) none none none none, ?_, ⟨rfl, rfl⟩, ?_, ?_⟩))
        · rw [natD_length]; omega
        · rintro j d acc ρ' hd ⟨rfl, rfl⟩
          obtain ⟨x, hx, rfl⟩ := natD_at hd
          refine wgv_name (by decide) ?_
          refine wt_yes ⟨fun _ => ?_, fun z => by cases z⟩
          walk_at "w"
          refine rd_ixT (d := .int (q.1 : Int)) rfl ?_
          refine rd_ixL (bl_at (by omega)) ?_
          walk_at "w"
          refine rd_ixT (d := .int (q.2 : Int)) rfl ?_
          refine rd_ixL (bl_at (by omega)) ?_
          refine rd_eqI ?_
          walk_at "w"
          refine rc_intB ?_
          by_cases e : x = bl C q.2
          · rw [decide_eq_true (show (x : Int) = (bl C q.2 : Int) by omega)]
            refine rd_ixL (d := .int (bl C q.1 : Int)) rfl ⟨?_, rfl⟩
            rw [joinB_take hx, if_pos e]
          · rw [decide_eq_false (show ¬ (x : Int) = (bl C q.2 : Int) by omega)]
            refine rd_ixL (d := .int (x : Int)) rfl ⟨?_, rfl⟩
            rw [joinB_take hx, if_neg e]
        · rintro acc ρ' ⟨rfl, rfl⟩
          refine ⟨ms ++ [.tup vs], joinB C q.1 q.2, some (.imm d), some (.imm (.tup vs)), some (.imm (pD (ip q))), by rw [List.length_append, List.length_singleton]; omega, fun d hd => ?_, by rw [joinB_len]; exact hCl, ?_⟩
          · rcases List.mem_append.mp hd with z | z
            · exact hms d z
            · rw [List.mem_singleton.mp z]; exact ⟨vs, rfl, by omega, by omega⟩
          · rw [natD_length, ← joinB_len C q.1 q.2, List.take_length]
            rfl
    · rintro ρ' ⟨ms, C, x11, x12, x13, hml, hms, hCl, rfl⟩
      rw [rgD_length] at hml
      exact ⟨ms, C, _, _, _, ⟨by omega, hms⟩, rfl⟩
  rintro ρ' ⟨ms, C, x11, x12, x13, hms, rfl⟩
  refine ws_mid (fun ρ' => ∃ x14 x15, ρ' = lwR p (.tup es) s (natD s.reach) a b t told ms C x11 x12 x13 x14 x15 none none) (ws_if ?_) ?_
  · walk_at "w"
    rcases hT with ⟨rfl, hT, rfl⟩ | ⟨rfl, rfl⟩
    rotate_left
    · exact rd_notN ⟨_, rfl, (fun z => by cases z), fun _ => ws_next ⟨none, none, rfl⟩⟩
    have hX7 := hC2.len
    have hIl : (X2.map (·.1)).length ≤ 7 := by rw [List.length_map]; exact hX7
    refine rd_notN ⟨_, rfl, (fun _ => ?_), fun z => by cases z⟩
    refine ws_seq (ws_ifF (wt_orF ?_))
    walk_at "w"
    refine ⟨s, a, b, _, rfl, hw, hn4, ha, hb2, _, rfl, _, rfl, by rw [acc_told hC2 hT]; rfl, ?_⟩
    walk_at "w"
    refine ⟨s, a, b, _, rfl, hw, ha, hb2, _, rfl, ?_⟩
    walk_at "w"
    refine rd_notB ⟨_, rfl, by rw [acc_told hC2 hT]; rfl, ?_⟩
    refine ws_next ?_
    walk_at "w"
    refine we_lc (wi_list ?_)
    walk_at "w"
    refine ⟨natD [64, 65], rfl, fun j acc ρ' => acc = ([64, 65].take j).map (rowA (X2.map (·.1)) a) ∧ ρ' = lwR p (.tup es) s (natD s.reach) a b true (.tup (X2.map (·.1))) ms C x11 x12 x13 (some (.imm (cRow a))) none none none, by decide, ⟨rfl, rfl⟩, ?_, ?_⟩
    · rintro j d acc ρ' hd ⟨rfl, rfl⟩
      obtain ⟨m, hm, rfl⟩ := natD_at hd
      have hm' : m = 64 ∨ m = 65 := by
        have := List.mem_of_getElem? hm
        simp at this
        exact this
      refine wgv_name (by decide) ?_
      refine wt_yes ⟨fun _ => ?_, fun z => by cases z⟩
      walk_at "w"
      refine rd_timesT (by omega) (by omega) (Nat.le_of_ble_eq_true rfl) ?_
      walk_at "w"
      refine rd_timesT (by omega) (by omega) (Nat.le_of_ble_eq_true rfl) ?_
      walk_at "w"
      refine rd_plusT (plen hIl (one_len _)) ⟨?_, rfl⟩
      rw [take_snoc hm, List.map_append]
      rfl
    rintro acc ρ' ⟨rfl, rfl⟩
    walk_at "w"
    refine we_lc (wi_list ?_)
    walk_at "w"
    refine ⟨natD [100, 101], rfl, fun j acc ρ' => acc = ([100, 101].take j).map (rowC (X2.map (·.1)) a) ∧ ρ' = lwR p (.tup es) s (natD s.reach) a b true (.tup (X2.map (·.1))) ms C x11 x12 x13 (some (.imm (cRow a))) (some (.imm (.lst [rowA (X2.map (·.1)) a 64, rowA (X2.map (·.1)) a 65]))) none none, by decide, ⟨rfl, rfl⟩, ?_, ?_⟩
    · rintro j d acc ρ' hd ⟨rfl, rfl⟩
      obtain ⟨m, hm, rfl⟩ := natD_at hd
      have hm' : m = 100 ∨ m = 101 := by
        have := List.mem_of_getElem? hm
        simp at this
        exact this
      refine wgv_name (by decide) ?_
      refine wt_yes ⟨fun _ => ?_, fun z => by cases z⟩
      walk_at "w"
      refine rc_len (.inl rfl) ?_
      refine rd_I0 (g := fun i j => i - j) ?_
      refine rd_timesT (by omega) (by omega) (Nat.le_of_ble_eq_true rfl) ?_
      refine rd_plusT (plen (n := 101) hIl (by rw [flat_len]; omega)) ⟨?_, rfl⟩
      rw [take_snoc hm, List.map_append]
      rfl
    rintro acc ρ' ⟨rfl, rfl⟩
    refine rd_plusL (Nat.le_of_ble_eq_true rfl) ?_
    refine ws_ifF (wt_andT ?_)
    walk_at "w"
    refine rc_len (.inl rfl) ?_
    walk_at "w"
    refine rd_B0 ⟨_, rfl, decide_eq_true (by omega), ?_⟩
    walk_at "w"
    refine we_lc (wi_list (we_var (d := .lst [rowA (X2.map (·.1)) a 64, rowA (X2.map (·.1)) a 65, rowC (X2.map (·.1)) a 100, rowC (X2.map (·.1)) a 101]) rfl ⟨_, rfl, fun j acc ρ' => acc = ([rowA (X2.map (·.1)) a 64, rowA (X2.map (·.1)) a 65, rowC (X2.map (·.1)) a 100, rowC (X2.map (·.1)) a 101].take j).map (fun d => D.bl (s.acc a b d)) ∧ ρ' = lwR p (.tup es) s (natD s.reach) a b true (.tup (X2.map (·.1))) ms C x11 x12 x13 (some (.imm (cRow a))) (some (.imm (.lst [rowA (X2.map (·.1)) a 64, rowA (X2.map (·.1)) a 65, rowC (X2.map (·.1)) a 100, rowC (X2.map (·.1)) a 101]))) none none, Nat.le_of_ble_eq_true rfl, ⟨rfl, rfl⟩, ?_, ?_⟩))
    · rintro j d acc ρ' hd ⟨rfl, rfl⟩
      refine wgv_name (by decide) ?_
      refine wt_yes ⟨fun _ => ?_, fun z => by cases z⟩
      walk_at "w"
      refine ⟨s, a, b, d, rfl, hw, ha, hb2, _, rfl, ?_, rfl⟩
      rw [take_snoc hd, List.map_append]
      rfl
    rintro acc ρ' ⟨rfl, rfl⟩
    walk_at "w"
    refine ⟨[true, false, true, false], ?_, by decide, _, rfl, _, rfl, rfl, ?_⟩
    · show [D.lst [D.bl (s.acc a b (rowA (X2.map (·.1)) a 64)), D.bl (s.acc a b (rowA (X2.map (·.1)) a 65)), D.bl (s.acc a b (rowC (X2.map (·.1)) a 100)), D.bl (s.acc a b (rowC (X2.map (·.1)) a 101))], _] = _
      rw [acc_A64 hC2 hT ha hk1, acc_A65 hC2 hT ha hk1, acc_C100 hC2 hT ha hk1, acc_C101 hC2 hT ha hk1]
      rfl
    exact ws_next ⟨_, _, rfl⟩
  rintro ρ' ⟨x14, x15, rfl⟩
  have hOk2 : ∀ vs, told = .tup vs → Okv vs := fun vs e => by
    rcases hT with ⟨_, _, rfl⟩ | ⟨_, rfl⟩
    · cases e
      exact ⟨by rw [List.length_map]; have := hC2.len; omega, run_shape hC2.run⟩
    · cases e
  refine ws_seq (ws_for (wi_range ?_))
  walk_at "w"
  refine ⟨5, rfl, by omega, fun i ρ' => ∃ x11 x16 x17, ρ' = lwR p (.tup es) s (natD s.reach) a b t told ms C x11 x12 x13 x14 x15 x16 x17, ⟨x11, none, none, rfl⟩, ?_, ?_⟩
  rotate_left
  · rintro ρ' ⟨x11, x16, x17, rfl⟩
    walk_at "w"
    exact rfl
  rintro i d ρ' hd ⟨y11, x16, x17, rfl⟩
  have hi5 : i < 5 := by
    have := (List.getElem?_eq_some_iff.mp hd).1
    rw [rgD_length] at this; exact this
  rw [rgD_get hi5] at hd
  cases hd
  refine wg_name (ws_seq (ws_asg (we_var (d := .tup ms) rfl ?_)))
  refine ws_mid (fun ρ' => ∃ vs, Okv vs ∧ ρ' = lwR p (.tup es) s (natD s.reach) a b t told ms C (some (.imm (.int (i : Int)))) x12 x13 x14 x15 (some (.imm (.tup vs))) x17) (ws_if ?_) ?_
  · walk_at "w"
    rcases hT with ⟨rfl, hT, rfl⟩ | ⟨rfl, rfl⟩
    rotate_left
    · exact rd_notN ⟨_, rfl, (fun z => by cases z), fun _ => ⟨(fun z => by cases z), fun _ => ws_next ⟨ms, hms, rfl⟩⟩⟩
    refine rd_notN ⟨_, rfl, (fun _ => ?_), fun z => by cases z⟩
    walk_at "w"
    refine rd_B0 ⟨_, rfl, fun _ => ?_, fun _ => ws_next ⟨ms, hms, rfl⟩⟩
    walk_at "w"
    exact ⟨_, hOk2 _ rfl, rfl⟩
  rintro ρ' ⟨vs, hvs, rfl⟩
  refine ws_mid (fun ρ' => ∃ v : D, ρ' = lwR p (.tup es) s (natD s.reach) a b t told ms C (some (.imm (.int (i : Int)))) x12 x13 x14 x15 (some (.imm v)) x17) (ws_if ?_) ?_
  · walk_at "w"
    refine rd_neI ⟨_, rfl, fun _ => ?_, fun _ => ws_next ⟨_, rfl⟩⟩
    walk_at "w"
    exact ⟨rfl, s, vs, rfl, hw, hn4, hk1, hvs.1, hvs.2, fun v => ⟨v, rfl⟩⟩
  rintro ρ' ⟨v, rfl⟩
  walk_at "w"
  refine ⟨s, a, b, v, rfl, hw, hn4, ha, hb2, _, rfl, ?_⟩
  refine ws_ifF (wt_orF ?_)
  walk_at "w"
  refine ⟨s, a, b, v, rfl, hw, ha, hb2, _, rfl, ?_⟩
  walk_at "w"
  refine ⟨_, _, rfl, _, rfl, _, rfl, by rw [beq_self_eq_true]; rfl, ?_⟩
  walk_at "w"
  refine ⟨_, rfl, fun h => ?_, fun _ => ⟨rfl, ws_next ⟨_, _, _, rfl⟩⟩⟩
  have h := Sys.acc_sound hw hC.stable han hbn h
  rw [decide_eq_true h] at ht
  subst ht
  walk_at "w"
  exact ⟨_, rfl, rfl, ws_next ⟨_, _, _, rfl⟩⟩
end
end K47

set_option Elab.async false
set_option linter.all false
set_option maxRecDepth 100000
set_option maxHeartbeats 0
namespace K47
open PySem PySem.Spec PyProof.Rows L2
def d_is_whole : He.DefD := ⟨("is_whole", none), "is_whole", "is_whole", defArgs s_is_whole, defBody s_is_whole, defScope s_is_whole, [], []⟩
def d_is_system : He.DefD := ⟨("is_system", none), "is_system", "is_system", defArgs s_is_system, defBody s_is_system, defScope s_is_system, [], []⟩
def d_is_command : He.DefD := ⟨("is_command", none), "is_command", "is_command", defArgs s_is_command, defBody s_is_command, defScope s_is_command, [], []⟩
def d_step : He.DefD := ⟨("step", none), "step", "step", defArgs s_step, defBody s_step, defScope s_step, [], []⟩
def d_led : He.DefD := ⟨("led", none), "led", "led", defArgs s_led, defBody s_led, defScope s_led, [], []⟩
def d_check_system : He.DefD := ⟨("check_system", none), "check_system", "check_system", defArgs s_check_system, defBody s_check_system, defScope s_check_system, [], []⟩
def d_pairs_from : He.DefD := ⟨("pairs_from", none), "pairs_from", "pairs_from", defArgs s_pairs_from, defBody s_pairs_from, defScope s_pairs_from, [], []⟩
def d_reached : He.DefD := ⟨("reached", none), "reached", "reached", defArgs s_reached, defBody s_reached, defScope s_reached, [], []⟩
def d_reachable_of : He.DefD := ⟨("reachable_of", none), "reachable_of", "reachable_of", defArgs s_reachable_of, defBody s_reachable_of, defScope s_reachable_of, [], []⟩
def d_actions_in : He.DefD := ⟨("actions_in", none), "actions_in", "actions_in", defArgs s_actions_in, defBody s_actions_in, defScope s_actions_in, [], []⟩
def d_join : He.DefD := ⟨("join", none), "join", "join", defArgs s_join, defBody s_join, defScope s_join, [], []⟩
def d_alone : He.DefD := ⟨("alone", none), "alone", "alone", defArgs s_alone, defBody s_alone, defScope s_alone, [], []⟩
def d_command_steps : He.DefD := ⟨("command_steps", none), "command_steps", "command_steps", defArgs s_command_steps, defBody s_command_steps, defScope s_command_steps, [], []⟩
def d_action_steps : He.DefD := ⟨("action_steps", none), "action_steps", "action_steps", defArgs s_action_steps, defBody s_action_steps, defScope s_action_steps, [], []⟩
def d_closed : He.DefD := ⟨("closed", none), "closed", "closed", defArgs s_closed, defBody s_closed, defScope s_closed, [], []⟩
def d_finest_of : He.DefD := ⟨("finest_of", none), "finest_of", "finest_of", defArgs s_finest_of, defBody s_finest_of, defScope s_finest_of, [], []⟩
def d_finest : He.DefD := ⟨("finest", none), "finest", "finest", defArgs s_finest, defBody s_finest, defScope s_finest, [], []⟩
def d_check_two : He.DefD := ⟨("check_two", none), "check_two", "check_two", defArgs s_check_two, defBody s_check_two, defScope s_check_two, [], []⟩
def d_joins : He.DefD := ⟨("joins", none), "joins", "joins", defArgs s_joins, defBody s_joins, defScope s_joins, [], []⟩
def d_is_long_sequence : He.DefD := ⟨("is_long_sequence", none), "is_long_sequence", "is_long_sequence", defArgs s_is_long_sequence, defBody s_is_long_sequence, defScope s_is_long_sequence, [], []⟩
def d_command_pair : He.DefD := ⟨("command_pair", none), "command_pair", "command_pair", defArgs s_command_pair, defBody s_command_pair, defScope s_command_pair, [], []⟩
def d_action_pair : He.DefD := ⟨("action_pair", none), "action_pair", "action_pair", defArgs s_action_pair, defBody s_action_pair, defScope s_action_pair, [], []⟩
def d_pair_of : He.DefD := ⟨("pair_of", none), "pair_of", "pair_of", defArgs s_pair_of, defBody s_pair_of, defScope s_pair_of, [], []⟩
def d_accepts_joins : He.DefD := ⟨("accepts_joins", none), "accepts_joins", "accepts_joins", defArgs s_accepts_joins, defBody s_accepts_joins, defScope s_accepts_joins, [], []⟩
def d_law_stream : He.DefD := ⟨("_law_stream", none), "_law_stream", "_law_stream", defArgs s_law_stream, defBody s_law_stream, defScope s_law_stream, [], []⟩
def d_law_next : He.DefD := ⟨("_law_next", none), "_law_next", "_law_next", defArgs s_law_next, defBody s_law_next, defScope s_law_next, [], []⟩
def d_law_is_integer : He.DefD := ⟨("_law_is_integer", none), "_law_is_integer", "_law_is_integer", defArgs s_law_is_integer, defBody s_law_is_integer, defScope s_law_is_integer, [], []⟩
def d_law_equal : He.DefD := ⟨("_law_equal", none), "_law_equal", "_law_equal", defArgs s_law_equal, defBody s_law_equal, defScope s_law_equal, [], []⟩
def d_law_system : He.DefD := ⟨("_law_system", none), "_law_system", "_law_system", defArgs s_law_system, defBody s_law_system, defScope s_law_system, [], []⟩
def d_law_some_system : He.DefD := ⟨("_law_some_system", none), "_law_some_system", "_law_some_system", defArgs s_law_some_system, defBody s_law_some_system, defScope s_law_some_system, [], []⟩
def d_law_led : He.DefD := ⟨("_law_led", none), "_law_led", "_law_led", defArgs s_law_led, defBody s_law_led, defScope s_law_led, [], []⟩
def d_law_reachable : He.DefD := ⟨("_law_reachable", none), "_law_reachable", "_law_reachable", defArgs s_law_reachable, defBody s_law_reachable, defScope s_law_reachable, [], []⟩
def d_law_each : He.DefD := ⟨("_law_each", none), "_law_each", "_law_each", defArgs s_law_each, defBody s_law_each, defScope s_law_each, [], []⟩
def d_law_is_sequence : He.DefD := ⟨("_law_is_sequence", none), "_law_is_sequence", "_law_is_sequence", defArgs s_law_is_sequence, defBody s_law_is_sequence, defScope s_law_is_sequence, [], []⟩
def d_law_pair : He.DefD := ⟨("_law_pair", none), "_law_pair", "_law_pair", defArgs s_law_pair, defBody s_law_pair, defScope s_law_pair, [], []⟩
def d_law_accepted : He.DefD := ⟨("_law_accepted", none), "_law_accepted", "_law_accepted", defArgs s_law_accepted, defBody s_law_accepted, defScope s_law_accepted, [], []⟩
def d_law_sequence : He.DefD := ⟨("_law_sequence", none), "_law_sequence", "_law_sequence", defArgs s_law_sequence, defBody s_law_sequence, defScope s_law_sequence, [], []⟩
def d_law_item : He.DefD := ⟨("_law_item", none), "_law_item", "_law_item", defArgs s_law_item, defBody s_law_item, defScope s_law_item, [], []⟩
def d_law_turned : He.DefD := ⟨("_law_turned", none), "_law_turned", "_law_turned", defArgs s_law_turned, defBody s_law_turned, defScope s_law_turned, [], []⟩
def d_law : He.DefD := ⟨("law", none), "law", "law", defArgs s_law, defBody s_law, defScope s_law, [], []⟩
def fn : List He.DefD := [d_is_whole, d_is_system, d_is_command, d_step, d_led, d_check_system, d_pairs_from, d_reached, d_reachable_of, d_actions_in, d_join, d_alone, d_command_steps, d_action_steps, d_closed, d_finest_of, d_finest, d_check_two, d_joins, d_is_long_sequence, d_command_pair, d_action_pair, d_pair_of, d_accepts_joins, d_law_stream, d_law_next, d_law_is_integer, d_law_equal, d_law_system, d_law_some_system, d_law_led, d_law_reachable, d_law_each, d_law_is_sequence, d_law_pair, d_law_accepted, d_law_sequence, d_law_item, d_law_turned, d_law]
def fa : List He.Fa := ([.glo "is_whole", .glo "is_system", .glo "is_command", .glo "step", .glo "led", .glo "check_system", .glo "pairs_from", .glo "reached", .glo "reachable_of", .glo "actions_in", .glo "join", .glo "alone", .glo "command_steps", .glo "action_steps", .glo "closed", .glo "finest_of", .glo "finest", .glo "check_two", .glo "joins", .glo "is_long_sequence", .glo "command_pair", .glo "action_pair", .glo "pair_of", .glo "accepts_joins", .glo "_law_stream", .glo "_law_next", .glo "_law_is_integer", .glo "_law_equal", .glo "_law_system", .glo "_law_some_system"] : List He.Fa) ++ ([.glo "_law_led", .glo "_law_reachable", .glo "_law_each", .glo "_law_is_sequence", .glo "_law_pair", .glo "_law_accepted", .glo "_law_sequence", .glo "_law_item", .glo "_law_turned", .glo "law", .free "abs", .free "all", .free "bool", .free "int", .free "isinstance", .free "len", .free "list", .free "range", .free "sorted", .free "str", .free "tuple", .int "MOST_STATES" 8, .int "MOST_COMMANDS" 4, .int "MOST_STEPS" 100, .int "LONGEST" 64] : List He.Fa)
abbrev R : PySem.W.OpenRow := PySem.W.OpenLaw.row PySem.Challenge.rw_undobystate_k47_whole_joins_by_whomever
abbrev hk : PySem.W.Hook := He.hookD 4 fa fn
def ob (s : PySem.W.SharedT) : He.AlD := He.obsDG 4 fa fn (HandSHeadRun.getT s)
theorem ob_eq (s : PySem.W.SharedT) : ob s = hk.obs s.abs := He.obsDG_eq (HandSHeadRun.getT_eq s)
def loose : List PySem.Str := (["UndoError", "BadValue", "MOST_STATES", "MOST_COMMANDS", "is_whole", "is_system", "is_command", "step", "led", "check_system", "pairs_from", "reached", "reachable_of", "MOST_STEPS", "LONGEST", "actions_in", "join", "alone", "command_steps", "action_steps", "closed", "finest_of", "finest", "check_two", "joins", "is_long_sequence", "command_pair", "action_pair", "pair_of", "accepts_joins"] : List PySem.Str) ++ (["_law_stream", "_law_next", "_law_is_integer", "_law_equal", "_law_system", "_law_some_system", "_law_led", "_law_reachable", "_law_each", "_law_is_sequence", "_law_pair", "_law_accepted", "_law_sequence", "_law_item", "_law_turned"] : List PySem.Str)
theorem run (w : World) : HandSHeadRun.RunEq R (PySem.W.view R.prog [51]) hk ob 3000 loose w := by
  intro os
  kernel_rfl
theorem facts {P : Program} {w : World} {K : PySem.W.Frag} {h : Heap} {mg : Str → Option Value} {f : Addr} (X : K.In h) (G : h.Ns mainGlobals mg) (hfa : mg ("law" : Str) = some (.ref f)) (c : He.SaysD fa fn K) :
    ∃ fd : FuncData, (∀ (s : Shared) (v : Value), BindsTo s fd ⟨[v], []⟩ [("_law_script", v)]) ∧ ∀ base : Heap, K.In base → base.Ns mainGlobals mg → FnOk P w K mg base CX0 9 f fd ["_law_script"] (spLaw K) := by
  obtain ⟨fd_is_whole, F_is_whole⟩ := c.def_ 0 (d := d_is_whole) rfl
  have m_is_whole := He.glo_ok X G (c.fact 0 (f := .glo "is_whole") rfl)
  obtain ⟨fd_is_system, F_is_system⟩ := c.def_ 1 (d := d_is_system) rfl
  have m_is_system := He.glo_ok X G (c.fact 1 (f := .glo "is_system") rfl)
  obtain ⟨fd_is_command, F_is_command⟩ := c.def_ 2 (d := d_is_command) rfl
  have m_is_command := He.glo_ok X G (c.fact 2 (f := .glo "is_command") rfl)
  obtain ⟨fd_step, F_step⟩ := c.def_ 3 (d := d_step) rfl
  have m_step := He.glo_ok X G (c.fact 3 (f := .glo "step") rfl)
  obtain ⟨fd_led, F_led⟩ := c.def_ 4 (d := d_led) rfl
  have m_led := He.glo_ok X G (c.fact 4 (f := .glo "led") rfl)
  obtain ⟨fd_check_system, F_check_system⟩ := c.def_ 5 (d := d_check_system) rfl
  have m_check_system := He.glo_ok X G (c.fact 5 (f := .glo "check_system") rfl)
  obtain ⟨fd_pairs_from, F_pairs_from⟩ := c.def_ 6 (d := d_pairs_from) rfl
  have m_pairs_from := He.glo_ok X G (c.fact 6 (f := .glo "pairs_from") rfl)
  obtain ⟨fd_reached, F_reached⟩ := c.def_ 7 (d := d_reached) rfl
  have m_reached := He.glo_ok X G (c.fact 7 (f := .glo "reached") rfl)
  obtain ⟨fd_reachable_of, F_reachable_of⟩ := c.def_ 8 (d := d_reachable_of) rfl
  have m_reachable_of := He.glo_ok X G (c.fact 8 (f := .glo "reachable_of") rfl)
  obtain ⟨fd_actions_in, F_actions_in⟩ := c.def_ 9 (d := d_actions_in) rfl
  have m_actions_in := He.glo_ok X G (c.fact 9 (f := .glo "actions_in") rfl)
  obtain ⟨fd_join, F_join⟩ := c.def_ 10 (d := d_join) rfl
  have m_join := He.glo_ok X G (c.fact 10 (f := .glo "join") rfl)
  obtain ⟨fd_alone, F_alone⟩ := c.def_ 11 (d := d_alone) rfl
  have m_alone := He.glo_ok X G (c.fact 11 (f := .glo "alone") rfl)
  obtain ⟨fd_command_steps, F_command_steps⟩ := c.def_ 12 (d := d_command_steps) rfl
  have m_command_steps := He.glo_ok X G (c.fact 12 (f := .glo "command_steps") rfl)
  obtain ⟨fd_action_steps, F_action_steps⟩ := c.def_ 13 (d := d_action_steps) rfl
  have m_action_steps := He.glo_ok X G (c.fact 13 (f := .glo "action_steps") rfl)
  obtain ⟨fd_closed, F_closed⟩ := c.def_ 14 (d := d_closed) rfl
  have m_closed := He.glo_ok X G (c.fact 14 (f := .glo "closed") rfl)
  obtain ⟨fd_finest_of, F_finest_of⟩ := c.def_ 15 (d := d_finest_of) rfl
  have m_finest_of := He.glo_ok X G (c.fact 15 (f := .glo "finest_of") rfl)
  obtain ⟨fd_finest, F_finest⟩ := c.def_ 16 (d := d_finest) rfl
  have m_finest := He.glo_ok X G (c.fact 16 (f := .glo "finest") rfl)
  obtain ⟨fd_check_two, F_check_two⟩ := c.def_ 17 (d := d_check_two) rfl
  have m_check_two := He.glo_ok X G (c.fact 17 (f := .glo "check_two") rfl)
  obtain ⟨fd_joins, F_joins⟩ := c.def_ 18 (d := d_joins) rfl
  have m_joins := He.glo_ok X G (c.fact 18 (f := .glo "joins") rfl)
  obtain ⟨fd_is_long_sequence, F_is_long_sequence⟩ := c.def_ 19 (d := d_is_long_sequence) rfl
  have m_is_long_sequence := He.glo_ok X G (c.fact 19 (f := .glo "is_long_sequence") rfl)
  obtain ⟨fd_command_pair, F_command_pair⟩ := c.def_ 20 (d := d_command_pair) rfl
  have m_command_pair := He.glo_ok X G (c.fact 20 (f := .glo "command_pair") rfl)
  obtain ⟨fd_action_pair, F_action_pair⟩ := c.def_ 21 (d := d_action_pair) rfl
  have m_action_pair := He.glo_ok X G (c.fact 21 (f := .glo "action_pair") rfl)
  obtain ⟨fd_pair_of, F_pair_of⟩ := c.def_ 22 (d := d_pair_of) rfl
  have m_pair_of := He.glo_ok X G (c.fact 22 (f := .glo "pair_of") rfl)
  obtain ⟨fd_accepts_joins, F_accepts_joins⟩ := c.def_ 23 (d := d_accepts_joins) rfl
  have m_accepts_joins := He.glo_ok X G (c.fact 23 (f := .glo "accepts_joins") rfl)
  obtain ⟨fd_law_stream, F_law_stream⟩ := c.def_ 24 (d := d_law_stream) rfl
  have m_law_stream := He.glo_ok X G (c.fact 24 (f := .glo "_law_stream") rfl)
  obtain ⟨fd_law_next, F_law_next⟩ := c.def_ 25 (d := d_law_next) rfl
  have m_law_next := He.glo_ok X G (c.fact 25 (f := .glo "_law_next") rfl)
  obtain ⟨fd_law_is_integer, F_law_is_integer⟩ := c.def_ 26 (d := d_law_is_integer) rfl
  have m_law_is_integer := He.glo_ok X G (c.fact 26 (f := .glo "_law_is_integer") rfl)
  obtain ⟨fd_law_equal, F_law_equal⟩ := c.def_ 27 (d := d_law_equal) rfl
  have m_law_equal := He.glo_ok X G (c.fact 27 (f := .glo "_law_equal") rfl)
  obtain ⟨fd_law_system, F_law_system⟩ := c.def_ 28 (d := d_law_system) rfl
  have m_law_system := He.glo_ok X G (c.fact 28 (f := .glo "_law_system") rfl)
  obtain ⟨fd_law_some_system, F_law_some_system⟩ := c.def_ 29 (d := d_law_some_system) rfl
  have m_law_some_system := He.glo_ok X G (c.fact 29 (f := .glo "_law_some_system") rfl)
  obtain ⟨fd_law_led, F_law_led⟩ := c.def_ 30 (d := d_law_led) rfl
  have m_law_led := He.glo_ok X G (c.fact 30 (f := .glo "_law_led") rfl)
  obtain ⟨fd_law_reachable, F_law_reachable⟩ := c.def_ 31 (d := d_law_reachable) rfl
  have m_law_reachable := He.glo_ok X G (c.fact 31 (f := .glo "_law_reachable") rfl)
  obtain ⟨fd_law_each, F_law_each⟩ := c.def_ 32 (d := d_law_each) rfl
  have m_law_each := He.glo_ok X G (c.fact 32 (f := .glo "_law_each") rfl)
  obtain ⟨fd_law_is_sequence, F_law_is_sequence⟩ := c.def_ 33 (d := d_law_is_sequence) rfl
  have m_law_is_sequence := He.glo_ok X G (c.fact 33 (f := .glo "_law_is_sequence") rfl)
  obtain ⟨fd_law_pair, F_law_pair⟩ := c.def_ 34 (d := d_law_pair) rfl
  have m_law_pair := He.glo_ok X G (c.fact 34 (f := .glo "_law_pair") rfl)
  obtain ⟨fd_law_accepted, F_law_accepted⟩ := c.def_ 35 (d := d_law_accepted) rfl
  have m_law_accepted := He.glo_ok X G (c.fact 35 (f := .glo "_law_accepted") rfl)
  obtain ⟨fd_law_sequence, F_law_sequence⟩ := c.def_ 36 (d := d_law_sequence) rfl
  have m_law_sequence := He.glo_ok X G (c.fact 36 (f := .glo "_law_sequence") rfl)
  obtain ⟨fd_law_item, F_law_item⟩ := c.def_ 37 (d := d_law_item) rfl
  have m_law_item := He.glo_ok X G (c.fact 37 (f := .glo "_law_item") rfl)
  obtain ⟨fd_law_turned, F_law_turned⟩ := c.def_ 38 (d := d_law_turned) rfl
  have m_law_turned := He.glo_ok X G (c.fact 38 (f := .glo "_law_turned") rfl)
  obtain ⟨fd_law, F_law⟩ := c.def_ 39 (d := d_law) rfl
  have m_law := He.glo_ok X G (c.fact 39 (f := .glo "law") rfl)
  have T : Txt K mg := { b_abs := He.free_ok X G (c.fact 40 (f := .free "abs") rfl), b_all := He.free_ok X G (c.fact 41 (f := .free "all") rfl), b_bool := He.free_ok X G (c.fact 42 (f := .free "bool") rfl), b_int := He.free_ok X G (c.fact 43 (f := .free "int") rfl), b_isinstance := He.free_ok X G (c.fact 44 (f := .free "isinstance") rfl), b_len := He.free_ok X G (c.fact 45 (f := .free "len") rfl), b_list := He.free_ok X G (c.fact 46 (f := .free "list") rfl), b_range := He.free_ok X G (c.fact 47 (f := .free "range") rfl), b_sorted := He.free_ok X G (c.fact 48 (f := .free "sorted") rfl), b_str := He.free_ok X G (c.fact 49 (f := .free "str") rfl), b_tuple := He.free_ok X G (c.fact 50 (f := .free "tuple") rfl), k_MOST_STATES := He.int_ok X G (c.fact 51 (f := .int "MOST_STATES" 8) rfl), k_MOST_COMMANDS := He.int_ok X G (c.fact 52 (f := .int "MOST_COMMANDS" 4) rfl), k_MOST_STEPS := He.int_ok X G (c.fact 53 (f := .int "MOST_STEPS" 100) rfl), k_LONGEST := He.int_ok X G (c.fact 54 (f := .int "LONGEST" 64) rfl) }
  have e := hfa.symm.trans m_law
  cases e
  have b := FunD.bindsA (ps := ["_law_script"]) F_law fun _ _ _ _ _ _ us hl => match us, hl with | [_], _ => rfl
  refine ⟨fd_law, fun s v => b s [v] rfl, fun base _ _ => ?_⟩
  have c_law_stream : Cal P w K mg base "_law_stream" 1 ["_law_script"] (spScr K) _ fd_law_stream := ⟨ok_law_stream T F_law_stream, m_law_stream, F_law_stream.kp, F_law_stream.bindsN fun _ _ _ _ _ _ us hl => match us, hl with | [_], _ => rfl⟩
  have c_law_next : Cal P w K mg base "_law_next" 1 ["_law_stream_here", "_law_many"] (spS T_law_next) _ fd_law_next := ⟨ok_law_next T F_law_next, m_law_next, F_law_next.kp, F_law_next.bindsN fun _ _ _ _ _ _ us hl => match us, hl with | [_, _], _ => rfl⟩
  have c_law_system : Cal P w K mg base "_law_system" 2 ["_law_stream_here", "_law_most", "_law_commands"] (spS T_law_system) _ fd_law_system := ⟨ok_law_system T F_law_system c_law_next, m_law_system, F_law_system.kp, F_law_system.bindsN fun _ _ _ _ _ _ us hl => match us, hl with | [_, _, _], _ => rfl⟩
  have c_law_some_system : Cal P w K mg base "_law_some_system" 3 ["_law_stream_here"] (spS T_law_some_system) _ fd_law_some_system := ⟨ok_law_some_system T F_law_some_system c_law_next c_law_system, m_law_some_system, F_law_some_system.kp, F_law_some_system.bindsN fun _ _ _ _ _ _ us hl => match us, hl with | [_], _ => rfl⟩
  have c_is_whole : Cal P w K mg base "is_whole" 1 ["value", "low", "high"] (spP T_is_whole) _ fd_is_whole := ⟨ok_is_whole T F_is_whole, m_is_whole, F_is_whole.kp, F_is_whole.bindsN fun _ _ _ _ _ _ us hl => match us, hl with | [_, _, _], _ => rfl⟩
  have c_is_system : Cal P w K mg base "is_system" 2 ["value"] (spP T_is_system) _ fd_is_system := ⟨ok_is_system T F_is_system c_is_whole, m_is_system, F_is_system.kp, F_is_system.bindsN fun _ _ _ _ _ _ us hl => match us, hl with | [_], _ => rfl⟩
  have c_check_system : Cal P w K mg base "check_system" 3 ["system"] (spP T_check_system) _ fd_check_system := ⟨ok_check_system T F_check_system c_is_system, m_check_system, F_check_system.kp, F_check_system.bindsN fun _ _ _ _ _ _ us hl => match us, hl with | [_], _ => rfl⟩
  have c_alone : Cal P w K mg base "alone" 1 ["system"] (spP T_alone) _ fd_alone := ⟨ok_alone T F_alone, m_alone, F_alone.kp, F_alone.bindsN fun _ _ _ _ _ _ us hl => match us, hl with | [_], _ => rfl⟩
  have c_step : Cal P w K mg base "step" 1 ["system", "state", "command"] (spP T_step) _ fd_step := ⟨ok_step T F_step, m_step, F_step.kp, F_step.bindsN fun _ _ _ _ _ _ us hl => match us, hl with | [_, _, _], _ => rfl⟩
  have c_reached : Cal P w K mg base "reached" 2 ["system", "state"] (spP T_reached) _ fd_reached := ⟨ok_reached T F_reached c_step, m_reached, F_reached.kp, F_reached.bindsN fun _ _ _ _ _ _ us hl => match us, hl with | [_, _], _ => rfl⟩
  have c_reachable_of : Cal P w K mg base "reachable_of" 3 ["system"] (spP T_reachable_of) _ fd_reachable_of := ⟨ok_reachable_of T F_reachable_of c_reached, m_reachable_of, F_reachable_of.kp, F_reachable_of.bindsN fun _ _ _ _ _ _ us hl => match us, hl with | [_], _ => rfl⟩
  have c_actions_in : Cal P w K mg base "actions_in" 4 ["system"] (spP T_actions_in) _ fd_actions_in := ⟨ok_actions_in T F_actions_in c_reachable_of, m_actions_in, F_actions_in.kp, F_actions_in.bindsN fun _ _ _ _ _ _ us hl => match us, hl with | [_], _ => rfl⟩
  have c_pairs_from : Cal P w K mg base "pairs_from" 2 ["system", "one", "other"] (spP T_pairs_from) _ fd_pairs_from := ⟨ok_pairs_from T F_pairs_from c_step, m_pairs_from, F_pairs_from.kp, F_pairs_from.bindsN fun _ _ _ _ _ _ us hl => match us, hl with | [_, _, _], _ => rfl⟩
  have c_action_steps : Cal P w K mg base "action_steps" 5 ["system", "blocks"] (spP T_action_steps) _ fd_action_steps := ⟨ok_action_steps T F_action_steps c_actions_in c_pairs_from c_step, m_action_steps, F_action_steps.kp, F_action_steps.bindsN fun _ _ _ _ _ _ us hl => match us, hl with | [_, _], _ => rfl⟩
  have c_join : Cal P w K mg base "join" 1 ["blocks", "one", "other"] (spP T_join) _ fd_join := ⟨ok_join T F_join, m_join, F_join.kp, F_join.bindsN fun _ _ _ _ _ _ us hl => match us, hl with | [_, _, _], _ => rfl⟩
  have c_command_steps : Cal P w K mg base "command_steps" 4 ["system", "blocks"] (spP T_command_steps) _ fd_command_steps := ⟨ok_command_steps T F_command_steps c_reachable_of c_step, m_command_steps, F_command_steps.kp, F_command_steps.bindsN fun _ _ _ _ _ _ us hl => match us, hl with | [_, _], _ => rfl⟩
  have c_closed : Cal P w K mg base "closed" 6 ["system"] (spP T_closed) _ fd_closed := ⟨ok_closed T F_closed c_alone c_action_steps c_join c_command_steps, m_closed, F_closed.kp, F_closed.bindsN fun _ _ _ _ _ _ us hl => match us, hl with | [_], _ => rfl⟩
  have c_finest_of : Cal P w K mg base "finest_of" 7 ["system"] (spP T_finest_of) _ fd_finest_of := ⟨ok_finest_of T F_finest_of c_closed c_reachable_of, m_finest_of, F_finest_of.kp, F_finest_of.bindsN fun _ _ _ _ _ _ us hl => match us, hl with | [_], _ => rfl⟩
  have c_finest : Cal P w K mg base "finest" 8 ["system"] (spP T_finest) _ fd_finest := ⟨ok_finest T F_finest c_check_system c_finest_of, m_finest, F_finest.kp, F_finest.bindsN fun _ _ _ _ _ _ us hl => match us, hl with | [_], _ => rfl⟩
  have c_law_each : Cal P w K mg base "_law_each" 1 ["_law_rows"] (spP T_law_each) _ fd_law_each := ⟨ok_law_each T F_law_each, m_law_each, F_law_each.kp, F_law_each.bindsN fun _ _ _ _ _ _ us hl => match us, hl with | [_], _ => rfl⟩
  have c_law_reachable : Cal P w K mg base "_law_reachable" 2 ["_law_system_here"] (spP T_law_reachable) _ fd_law_reachable := ⟨ok_law_reachable T F_law_reachable c_law_each, m_law_reachable, F_law_reachable.kp, F_law_reachable.bindsN fun _ _ _ _ _ _ us hl => match us, hl with | [_], _ => rfl⟩
  have c_check_two : Cal P w K mg base "check_two" 4 ["system", "one", "other"] (spP T_check_two) _ fd_check_two := ⟨ok_check_two T F_check_two c_check_system c_reachable_of c_is_whole, m_check_two, F_check_two.kp, F_check_two.bindsN fun _ _ _ _ _ _ us hl => match us, hl with | [_, _, _], _ => rfl⟩
  have c_joins : Cal P w K mg base "joins" 7 ["system", "one", "other"] (spP T_joins) _ fd_joins := ⟨ok_joins T F_joins c_check_two c_closed, m_joins, F_joins.kp, F_joins.bindsN fun _ _ _ _ _ _ us hl => match us, hl with | [_, _, _], _ => rfl⟩
  have c_law_sequence : Cal P w K mg base "_law_sequence" 2 ["_law_stream_here", "_law_system_here", "_law_most"] (spS T_law_sequence) _ fd_law_sequence := ⟨ok_law_sequence T F_law_sequence c_law_next, m_law_sequence, F_law_sequence.kp, F_law_sequence.bindsN fun _ _ _ _ _ _ us hl => match us, hl with | [_, _, _], _ => rfl⟩
  have c_law_item : Cal P w K mg base "_law_item" 3 ["_law_stream_here", "_law_system_here"] (spS T_law_item) _ fd_law_item := ⟨ok_law_item T F_law_item c_law_reachable c_law_next c_law_sequence, m_law_item, F_law_item.kp, F_law_item.bindsN fun _ _ _ _ _ _ us hl => match us, hl with | [_, _], _ => rfl⟩
  have c_law_is_integer : Cal P w K mg base "_law_is_integer" 1 ["_law_actual"] (spP T_law_is_integer) _ fd_law_is_integer := ⟨ok_law_is_integer T F_law_is_integer, m_law_is_integer, F_law_is_integer.kp, F_law_is_integer.bindsN fun _ _ _ _ _ _ us hl => match us, hl with | [_], _ => rfl⟩
  have c_law_is_sequence : Cal P w K mg base "_law_is_sequence" 2 ["_law_system_here", "_law_value"] (spP T_law_is_sequence) _ fd_law_is_sequence := ⟨ok_law_is_sequence T F_law_is_sequence c_law_is_integer, m_law_is_sequence, F_law_is_sequence.kp, F_law_is_sequence.bindsN fun _ _ _ _ _ _ us hl => match us, hl with | [_, _], _ => rfl⟩
  have c_law_led : Cal P w K mg base "_law_led" 1 ["_law_system_here", "_law_state", "_law_sequence_here"] (spP T_law_led) _ fd_law_led := ⟨ok_law_led T F_law_led, m_law_led, F_law_led.kp, F_law_led.bindsN fun _ _ _ _ _ _ us hl => match us, hl with | [_, _, _], _ => rfl⟩
  have c_law_pair : Cal P w K mg base "_law_pair" 3 ["_law_system_here", "_law_blocks", "_law_value"] (spP T_law_pair) _ fd_law_pair := ⟨ok_law_pair T F_law_pair c_law_reachable c_law_is_integer c_law_is_sequence c_law_led, m_law_pair, F_law_pair.kp, F_law_pair.bindsN fun _ _ _ _ _ _ us hl => match us, hl with | [_, _, _], _ => rfl⟩
  have c_is_command : Cal P w K mg base "is_command" 2 ["system", "value"] (spP T_is_command) _ fd_is_command := ⟨ok_is_command T F_is_command c_is_whole, m_is_command, F_is_command.kp, F_is_command.bindsN fun _ _ _ _ _ _ us hl => match us, hl with | [_, _], _ => rfl⟩
  have c_command_pair : Cal P w K mg base "command_pair" 4 ["system", "blocks", "value"] (spP T_command_pair) _ fd_command_pair := ⟨ok_command_pair T F_command_pair c_is_command c_reachable_of c_is_whole c_step, m_command_pair, F_command_pair.kp, F_command_pair.bindsN fun _ _ _ _ _ _ us hl => match us, hl with | [_, _, _], _ => rfl⟩
  have c_is_long_sequence : Cal P w K mg base "is_long_sequence" 3 ["system", "value"] (spP T_is_long_sequence) _ fd_is_long_sequence := ⟨ok_is_long_sequence T F_is_long_sequence c_is_command, m_is_long_sequence, F_is_long_sequence.kp, F_is_long_sequence.bindsN fun _ _ _ _ _ _ us hl => match us, hl with | [_, _], _ => rfl⟩
  have c_led : Cal P w K mg base "led" 2 ["system", "state", "sequence"] (spP T_led) _ fd_led := ⟨ok_led T F_led c_step, m_led, F_led.kp, F_led.bindsN fun _ _ _ _ _ _ us hl => match us, hl with | [_, _, _], _ => rfl⟩
  have c_action_pair : Cal P w K mg base "action_pair" 4 ["system", "blocks", "value"] (spP T_action_pair) _ fd_action_pair := ⟨ok_action_pair T F_action_pair c_reachable_of c_is_whole c_is_long_sequence c_is_command c_step c_led, m_action_pair, F_action_pair.kp, F_action_pair.bindsN fun _ _ _ _ _ _ us hl => match us, hl with | [_, _, _], _ => rfl⟩
  have c_pair_of : Cal P w K mg base "pair_of" 5 ["system", "blocks", "value"] (spP T_pair_of) _ fd_pair_of := ⟨ok_pair_of T F_pair_of c_command_pair c_action_pair, m_pair_of, F_pair_of.kp, F_pair_of.bindsN fun _ _ _ _ _ _ us hl => match us, hl with | [_, _, _], _ => rfl⟩
  have c_accepts_joins : Cal P w K mg base "accepts_joins" 6 ["system", "one", "other", "value"] (spP T_accepts_joins) _ fd_accepts_joins := ⟨ok_accepts_joins T F_accepts_joins c_check_two c_alone c_pair_of c_join, m_accepts_joins, F_accepts_joins.kp, F_accepts_joins.bindsN fun _ _ _ _ _ _ us hl => match us, hl with | [_, _, _, _], _ => rfl⟩
  have c_law_accepted : Cal P w K mg base "_law_accepted" 4 ["_law_system_here", "_law_one", "_law_other", "_law_value"] (spP T_law_accepted) _ fd_law_accepted := ⟨ok_law_accepted T F_law_accepted c_law_pair, m_law_accepted, F_law_accepted.kp, F_law_accepted.bindsN fun _ _ _ _ _ _ us hl => match us, hl with | [_, _, _, _], _ => rfl⟩
  have c_law_equal_b : Cal P w K mg base "_law_equal" 2 ["_law_actual", "_law_due"] (spP T_law_equal_b) _ fd_law_equal := ⟨ok_law_equal_b T F_law_equal, m_law_equal, F_law_equal.kp, F_law_equal.bindsN fun _ _ _ _ _ _ us hl => match us, hl with | [_, _], _ => rfl⟩
  have c_law_equal_l : Cal P w K mg base "_law_equal" 3 ["_law_actual", "_law_due"] (spP T_law_equal_l) _ fd_law_equal := ⟨ok_law_equal_l T F_law_equal c_law_is_integer c_law_equal_b, m_law_equal, F_law_equal.kp, F_law_equal.bindsN fun _ _ _ _ _ _ us hl => match us, hl with | [_, _], _ => rfl⟩
  have c_law_turned : Cal P w K mg base "_law_turned" 4 ["_law_stream_here", "_law_system_here", "_law_value"] (spS T_law_turned) _ fd_law_turned := ⟨ok_law_turned T F_law_turned c_law_next c_law_item, m_law_turned, F_law_turned.kp, F_law_turned.bindsN fun _ _ _ _ _ _ us hl => match us, hl with | [_, _, _], _ => rfl⟩
  exact ok_law T F_law c_law_stream c_law_some_system c_finest c_law_reachable c_law_next c_joins c_law_item c_law_pair c_accepts_joins c_law_accepted c_law_equal_l c_law_turned c_law_equal_b
end K47
open PySem PySem.W PySem.Calls PyProof.Rows
theorem PySem.Challenge.cw_undobystate_k47_whole_joins_by_whomever_holds : PySem.Challenge.rw_undobystate_k47_whole_joins_by_whomever.Holds := by
  w_on; o_law
  refine HandSHeadRun.head_any (r := OpenLaw.row PySem.Challenge.rw_undobystate_k47_whole_joins_by_whomever) (q := view (OpenLaw.row PySem.Challenge.rw_undobystate_k47_whole_joins_by_whomever).prog [51]) (H := K47.hk) (ob := K47.ob) (M := 3000) (loose := K47.loose) (d := HandSHeadRun.topDef (OpenLaw.row PySem.Challenge.rw_undobystate_k47_whole_joins_by_whomever).prog 51) (kwd := []) K47.ob_eq
    (by kernel_rfl) (fun s => by kernel_rfl) K47.run (by kernel_rfl) (by kernel_rfl) (by kernel_rfl) (by rfl) (by first | assumption | decide +kernel) (by decide +kernel) ⟨rfl, rfl, rfl, rfl, rfl, by decide +kernel⟩ ?hw ?hc
  case hw => w_witness2
  case hc =>
    refine L2.walk_ofE (l := PySem.Challenge.rw_undobystate_k47_whole_joins_by_whomever) (n := 63) (k := 9) (x := "_law_script") (CX := L2.CX0) rfl (by decide) (by kernel_rfl) ⟨rfl, by decide, by decide⟩ ?F (fun _ _ _ _ z => z)
    intro w mg fa h Y G hmg0
    obtain ⟨K, KX, c⟩ := Y
    have hmg : mg ("law" : PySem.Str) = some (.ref fa) := by
      have e : (HandSHeadRun.topDef (OpenLaw.row PySem.Challenge.rw_undobystate_k47_whole_joins_by_whomever).prog 51).name = ("law" : PySem.Str) := by kernel_rfl
      rw [← e]
      exact hmg0
    obtain ⟨fd, hb, hF⟩ := K47.facts (P := (PySem.Challenge.rw_undobystate_k47_whole_joins_by_whomever).prog) (w := w) KX G hmg c
    exact ⟨K, fd, K47.spLaw K, KX, hb, fun H a ns hl _ hS => ⟨a, ns, rfl, hS, fun _ => rfl⟩, hF⟩
