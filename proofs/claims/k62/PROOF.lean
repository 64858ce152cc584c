import PyProof.Rows.All
import Wide.All
import OpenK.AllK
import Wide.FinOn
import HandS.Zip0
import HandS.Conv
import HandS.Iter
import KE.GoesMore
import KE.GoesEnum
import HandS.ForMost
import HandS.Exc
import HandS.TryOnly
import HandS.ExcOwn
import HandS.WordsExc
import HandS.CallSlots
import HandS.Deep
import HandS.Wide
import HandS.WideBits
import HandS.TupAny
import HandS.Zip
import HandS.Strs
import HandS.IsInst
import HandS.Style
import HandS.TupMul
import KE.DataMinMax
import KE.KSortedM
import HandS.More
import HandS.SortInts
import HandS.EndBits
import HandS.HotCalls
import HandS.ExcIs
import HandS.Rev
import PySem.Challenge.RW_cutexchange_k62_steps_done
set_option Elab.async false
set_option linter.all false
set_option maxRecDepth 100000
set_option maxHeartbeats 4000000
/-! list(zip(a tuple, a list)) -/
namespace ZL
open PySem
open PySem.Sem (wp)
section
variable {prog : Program} {w : World} {A : Around} {E : Value → Shared → Prop} {s : Shared}
abbrev IsZf (h : Heap) (z TI TO : Addr) (f0 : Value) (f1 : Bool) : Prop :=
  h.get? z = some { cls := .type "zip", dict := none, data := .fields #[f0, .bool f1, .bool false, .ref TI, .ref TO], slots := #[] }

abbrev zH1 (h : Heap) (l1 : Addr) : Heap := h.push { cls := .type "tuple_iterator", data := .fields #[.ref l1, .int 0 0] }
abbrev zH2 (h : Heap) (l1 l2 : Addr) : Heap := (zH1 h l1).push { cls := .type "list_iterator", data := .fields #[.ref l2, .int 0 0] }
abbrev zH3 (h : Heap) (l1 l2 : Addr) : Heap := (zH2 h l1 l2).push { cls := .type "tuple", data := .seq #[.ref h.objs.size, .ref (zH1 h l1).objs.size] }
abbrev zH4 (h : Heap) (l1 l2 : Addr) : Heap := (zH3 h l1 l2).push { cls := .type "tuple", data := .seq #[.none, .none] }
abbrev zH5 (h : Heap) (l1 l2 : Addr) : Heap := (zH4 h l1 l2).push { cls := .type "zip", data := .fields #[.none, .bool false, .bool false, .ref (zH2 h l1 l2).objs.size, .ref (zH3 h l1 l2).objs.size] }
theorem meets_zip_mix (l1 l2 : Addr) (xs ys : Array Value) :
    Meets (Builtin.«zip.__new__» ⟨[.type "zip", .ref l1, .ref l2], []⟩) (fun _ R s => s.heap.IsTuple l1 xs ∧ s.heap.IsList l2 ys ∧
      R (.ok (.ret (.ref (zH4 s.heap l1 l2).objs.size))) { s with heap := zH5 s.heap l1 l2 }) :=
  .of_wp fun prog w A R s h => by
    obtain ⟨hp, g, d, tk, os⟩ := s; obtain ⟨hl1, hl2, h⟩ := h
    have hsub := sub_zip
    have hL1 : Heap.IsTuple (Shared.heap ⟨hp, g, d, tk, os⟩) l1 xs := hl1
    have hL2 : Heap.IsList (Shared.heap ⟨hp.push { cls := .type "tuple_iterator", data := .fields #[.ref l1, .int 0 0] }, g, d, tk, os⟩) l2 ys := Heap.IsList.push hl2 _
    wp_walk using wpAny_pyIter_tuple hL1, wpAny_pyIter_list hL2
    exact ⟨_, rfl, h⟩
theorem call_zip_mix {l1 l2 : Addr} {xs ys : Array Value} {Q : Value → Shared → Prop} (hl1 : s.heap.IsTuple l1 xs) (hl2 : s.heap.IsList l2 ys)
    (h : ∀ h', IsZf h' (s.heap.objs.size + 4) (s.heap.objs.size + 2) (s.heap.objs.size + 3) .none false → IsPair h' (s.heap.objs.size + 2) (.ref s.heap.objs.size) (.ref (s.heap.objs.size + 1)) →
      IsPair h' (s.heap.objs.size + 3) .none .none → h'.IsTupleIter s.heap.objs.size l1 0 → h'.IsListIter (s.heap.objs.size + 1) l2 0 → h'.objs.size = s.heap.objs.size + 5 →
      (∀ c o, s.heap.get? c = some o → h'.get? c = some o) → Q (.ref (s.heap.objs.size + 4)) { s with heap := h' }) :
    wpAny (model prog w) A (call (.type "zip") [.ref l1, .ref l2]) Q E s := by
  refine callType_new F.called_zip (by decide) (F.typeCall_zip_2 _ _) (F.newCall_zip_2 _ _) (fun obj => F.args_object_init_3 obj _ _) F.entry_zip_new
    (meets_zip_mix l1 l2 xs ys) ⟨hl1, hl2, ?_⟩
  have z1 : (zH1 s.heap l1).objs.size = s.heap.objs.size + 1 := Heap.size_push ..
  have z2 : (zH2 s.heap l1 l2).objs.size = s.heap.objs.size + 2 := by rw [Heap.size_push, z1]
  have z3 : (zH3 s.heap l1 l2).objs.size = s.heap.objs.size + 3 := by rw [Heap.size_push, z2]
  have z4 : (zH4 s.heap l1 l2).objs.size = s.heap.objs.size + 4 := by rw [Heap.size_push, z3]
  have z5 : (zH5 s.heap l1 l2).objs.size = s.heap.objs.size + 5 := by rw [Heap.size_push, z4]
  have g5 : (zH5 s.heap l1 l2).get? (zH4 s.heap l1 l2).objs.size = some _ := Heap.get?_push_size _ rfl
  have g4 : (zH5 s.heap l1 l2).get? (zH3 s.heap l1 l2).objs.size = some _ := Heap.get?_push_of_some _ (Heap.get?_push_size _ rfl)
  have g3 : (zH5 s.heap l1 l2).get? (zH2 s.heap l1 l2).objs.size = some _ := Heap.get?_push_of_some _ (Heap.get?_push_of_some _ (Heap.get?_push_size _ rfl))
  have g2 : (zH5 s.heap l1 l2).get? (zH1 s.heap l1).objs.size = some _ := Heap.get?_push_of_some _ (Heap.get?_push_of_some _ (Heap.get?_push_of_some _ (Heap.get?_push_size _ rfl)))
  have g1 : (zH5 s.heap l1 l2).get? s.heap.objs.size = some _ := Heap.get?_push_of_some _ (Heap.get?_push_of_some _ (Heap.get?_push_of_some _ (Heap.get?_push_of_some _ (Heap.get?_push_size _ rfl))))
  show _ ∧ _
  rw [z2, z3, z4] at g5
  rw [z1, z2] at g3
  rw [z3] at g4
  rw [z1] at g2
  rw [z4]
  exact ⟨⟨_, g5, rfl⟩, h _ g5 g3 g4 ⟨_, g1, rfl, rfl⟩ ⟨_, g2, rfl, rfl⟩ z5 fun c o x =>
    Heap.get?_push_of_some _ (Heap.get?_push_of_some _ (Heap.get?_push_of_some _ (Heap.get?_push_of_some _ (Heap.get?_push_of_some _ x))))⟩

/-- the first item: the owned tuple is free -/
theorem next_first {z TI TO i1 i2 l1 l2 : Addr} {k1 k2 : Nat} {xs ys : Array Value} {x y a b : Value} {Q : Value → Shared → Prop} (D : ZipApart z TI TO i1 i2 l1 l2)
    (hz : IsZf s.heap z TI TO .none false) (hTI : IsPair s.heap TI (.ref i1) (.ref i2)) (hTO : IsPair s.heap TO a b)
    (h1 : s.heap.IsTupleIter i1 l1 k1) (h2 : s.heap.IsListIter i2 l2 k2) (hl1 : s.heap.IsTuple l1 xs) (hl2 : s.heap.IsList l2 ys) (hx : xs[k1]? = some x) (hy : ys[k2]? = some y)
    (hQ : ∀ h', IsZf h' z TI TO (rawInt s.heap.objs.size) false → IsPair h' TO x y → h'.IsTupleIter i1 l1 (k1 + 1) → h'.IsListIter i2 l2 (k2 + 1) → IsPair h' s.heap.objs.size x y → h'.objs.size = s.heap.objs.size + 1 →
      (∀ c o, c ≠ z → c ≠ TO → c ≠ i1 → c ≠ i2 → s.heap.get? c = some o → h'.get? c = some o) → Q (.ref s.heap.objs.size) { s with heap := h' }) :
    wpAny (model prog w) A (Builtin.«zip.__next__» ⟨[.ref z], []⟩) (fun fin s' => ∃ v, fin = .done (.ret v) ∧ Q v s') E s := by
  show wpAny _ _ (field (.ref z) 2 >>= _) _ _ _
  refine wpAny_bind (wpAny_field hz rfl (x := .bool false) rfl ?_)
  show wpAny _ _ (field (.ref z) 3 >>= _) _ _ _
  refine wpAny_bind (wpAny_field hz rfl (x := .ref TI) rfl ?_)
  refine wpAny_bind (wpAny_seqItems hTI rfl ?_)
  show wpAny _ _ (Builtin.SmallTypes.ownedTupleIsFree (.ref z) >>= _) _ _ _
  refine wpAny_bind ?_
  unfold Builtin.SmallTypes.ownedTupleIsFree
  refine wpAny_bind (wpAny_field hz rfl (x := .none) rfl (wpAny_pure ?_))
  simp only [if_true]
  refine wpAny_bind (wpAny_rule ?_)
  refine wpAny_bind (wpAny_field hz rfl (x := .ref TO) rfl ?_)
  refine wpAny_bind (wpAny_setField_rec hz (by simp) fun h₁ hz₁ hs₁ => ?_)
  replace hz₁ : IsZf h₁ z TI TO .ellipsis false := hz₁
  refine wpAny_bind ?_
  simp only [List.zipIdx_cons, List.zipIdx_nil, List.forIn_cons, List.forIn_nil]
  refine wpAny_bind (wpAny_bind (wpAny_onRaise ?_))
  show wpAny _ _ (Builtin.SmallTypes.nextOf (.ref i1) >>= _) _ _ _
  refine wpAny_bind (RZ.nextOf_tuple_item (h1.extBut hs₁.extBut D.i1z) (hl1.extBut hs₁.extBut D.l1z) hx fun h₂ h1₂ hs₂ => wpAny_pure ?_)
  have hTO₂ : IsPair h₂ TO a b := hs₂.extBut _ _ D.TOi1 (hs₁.extBut _ _ D.TOz hTO)
  refine wpAny_bind (wpAny_seqItems hTO₂ rfl ?_)
  refine wpAny_bind (wpAny_updateSeq_pair hTO₂ fun h₃ hTO₃ hs₃ => ?_)
  replace hTO₃ : IsPair h₃ TO x b := hTO₃
  refine wpAny_bind (wpAny_letGo (wpAny_pure ?_))
  refine wpAny_bind (wpAny_bind (wpAny_onRaise ?_))
  show wpAny _ _ (Builtin.SmallTypes.nextOf (.ref i2) >>= _) _ _ _
  refine wpAny_bind (wpAny_nextOf_list_item (((h2.extBut hs₁.extBut D.i2z).extBut hs₂.extBut D.i12.symm).extBut hs₃.extBut D.TOi2.symm)
    (((hl2.extBut hs₁.extBut D.l2z).extBut hs₂.extBut D.l2i1).extBut hs₃.extBut D.l2TO) hy fun h₄ h2₄ hs₄ => wpAny_pure ?_)
  have hTO₄ : IsPair h₄ TO x b := hs₄.extBut _ _ D.TOi2 hTO₃
  refine wpAny_bind (wpAny_seqItems hTO₄ rfl ?_)
  refine wpAny_bind (wpAny_updateSeq_pair hTO₄ fun h₅ hTO₅ hs₅ => ?_)
  replace hTO₅ : IsPair h₅ TO x y := hTO₅
  refine wpAny_bind (wpAny_letGo (wpAny_pure (wpAny_pure ?_)))
  refine wpAny_bind (wpAny_seqItems hTO₅ rfl ?_)
  refine wpAny_bind (wpAny_newTuple ?_)
  have hsz : h₅.objs.size = s.heap.objs.size := by rw [hs₅.1, hs₄.1, hs₃.1, hs₂.1, hs₁.1]
  have hz₅ : IsZf h₅ z TI TO .ellipsis false := hs₅.extBut _ _ D.TOz.symm (hs₄.extBut _ _ D.i2z.symm (hs₃.extBut _ _ D.TOz.symm (hs₂.extBut _ _ D.i1z.symm hz₁)))
  have hk₅ : ∀ c o, c ≠ z → c ≠ TO → c ≠ i1 → c ≠ i2 → s.heap.get? c = some o → h₅.get? c = some o := fun c o c1 c2 c3 c4 e =>
    hs₅.extBut _ _ c2 (hs₄.extBut _ _ c4 (hs₃.extBut _ _ c2 (hs₂.extBut _ _ c3 (hs₁.extBut _ _ c1 e))))
  have h1₅ : h₅.IsTupleIter i1 l1 (k1 + 1) := ((h1₂.extBut hs₃.extBut D.TOi1.symm).extBut hs₄.extBut D.i12).extBut hs₅.extBut D.TOi1.symm
  have h2₅ : h₅.IsListIter i2 l2 (k2 + 1) := h2₄.extBut hs₅.extBut D.TOi2.symm
  have hzlt : z < h₅.objs.size := Heap.lt_size hz₅
  have hTOlt : TO < h₅.objs.size := Heap.lt_size hTO₅
  have hi1lt : i1 < h₅.objs.size := by obtain ⟨_, e, _⟩ := h1₅; exact Heap.lt_size e
  have hi2lt : i2 < h₅.objs.size := by obtain ⟨_, e, _⟩ := h2₅; exact Heap.lt_size e
  show wpAny _ _ (Builtin.SmallTypes.ownedTupleHandOut (.ref z) (.ref h₅.objs.size) >>= _) _ _ _
  refine wpAny_bind ?_
  unfold Builtin.SmallTypes.ownedTupleHandOut
  have hz₆ : IsZf (h₅.push { cls := .type "tuple", data := .seq #[x, y] }) z TI TO .ellipsis false := Heap.get?_push_of_some _ hz₅
  refine wpAny_bind (wpAny_setField_rec hz₆ (by simp) fun h₇ hz₇ hs₇ => ?_)
  replace hz₇ : IsZf h₇ z TI TO (rawInt h₅.objs.size) false := hz₇
  refine wpAny_setField_rec hz₇ (by simp) fun h₈ hz₈ hs₈ => ?_
  replace hz₈ : IsZf h₈ z TI TO (rawInt h₅.objs.size) false := hz₈
  have up : ∀ c o, c ≠ z → h₅.get? c = some o → h₈.get? c = some o := fun c o c1 e => hs₈.extBut _ _ c1 (hs₇.extBut _ _ c1 (Heap.get?_push_of_some _ e))
  have hT₈ : IsPair h₈ h₅.objs.size x y := hs₈.extBut _ _ (Nat.ne_of_gt hzlt) (hs₇.extBut _ _ (Nat.ne_of_gt hzlt) (Heap.get?_push_size _ rfl))
  have hz8 : h₈.objs.size = h₅.objs.size + 1 := by rw [hs₈.1, hs₇.1, Heap.size_push]
  rw [hsz] at hz₈ hT₈ hz8
  refine wpAny_pure ⟨_, rfl, ?_⟩
  show Q (.ref h₅.objs.size) _
  rw [hsz]
  exact hQ h₈ hz₈ (up _ _ D.TOz hTO₅) (h1₅.at fun o e => up _ o D.i1z e) (h2₅.at fun o e => up _ o D.i2z e) hT₈ hz8 fun c o c1 c2 c3 c4 e => up c o c1 (hk₅ c o c1 c2 c3 c4 e)


theorem alive {a : Addr} {o : Obj} {Q : Option Obj → Shared → Prop} (ho : s.heap.get? a = some o) (h : Q (some o) s) : wpAny (model prog w) A (loadIfAlive a) Q E s := by
  have h' : Q (s.heap.get? a) s := by rw [ho]; exact h
  exact fun _ _ _ => h'
theorem free_out {z TI TO T0 : Addr} {f1 : Bool} {oT : Obj} {Q : Bool → Shared → Prop} (hz : IsZf s.heap z TI TO (rawInt T0) f1) (hT0 : s.heap.get? T0 = some oT)
    (h : ∀ h', IsZf h' z TI TO (rawInt T0) true → Heap.SameBut z s.heap h' → Q false { s with heap := h' }) : wpAny (model prog w) A (Builtin.SmallTypes.ownedTupleIsFree (.ref z)) Q E s := by
  unfold Builtin.SmallTypes.ownedTupleIsFree
  refine wpAny_bind (wpAny_field hz rfl (x := rawInt T0) rfl ?_)
  show wpAny _ _ (loadIfAlive ((T0 : Int).toNat) >>= _) _ _ _
  rw [Int.toNat_natCast]
  refine wpAny_bind (alive hT0 ?_)
  simp only [Option.isNone_some, Bool.false_eq_true, if_false]
  refine wpAny_bind (wpAny_field hz rfl (x := .bool f1) rfl ?_)
  cases f1 with
  | true =>
    rw [if_neg (show ¬ ((Value.bool true != Value.bool true) = true) from Bool.false_ne_true)]
    exact wpAny_pure (h s.heap hz (Heap.SameBut.refl _ _))
  | false =>
    rw [if_pos (show (Value.bool false != Value.bool true) = true from rfl)]
    refine wpAny_bind (wpAny_setField_rec hz (by simp) fun h₃ he₃ hs₃ => ?_)
    exact wpAny_pure (h h₃ he₃ hs₃)
end
end ZL

namespace ZL
open PySem
open PySem.Sem (wp)
section
variable {prog : Program} {w : World} {A : Around} {E : Value → Shared → Prop} {s : Shared}
/-- a later item: the owned tuple is out -/
theorem next_later {z TI TO i1 i2 l1 l2 T0 : Addr} {f1 : Bool} {oT : Obj} {k1 k2 : Nat} {xs ys : Array Value} {x y : Value} {Q : Value → Shared → Prop} (D : ZipApart z TI TO i1 i2 l1 l2)
    (hz : IsZf s.heap z TI TO (rawInt T0) f1) (hT0 : s.heap.get? T0 = some oT) (hTI : IsPair s.heap TI (.ref i1) (.ref i2))
    (h1 : s.heap.IsTupleIter i1 l1 k1) (h2 : s.heap.IsListIter i2 l2 k2) (hl1 : s.heap.IsTuple l1 xs) (hl2 : s.heap.IsList l2 ys) (hx : xs[k1]? = some x) (hy : ys[k2]? = some y)
    (hQ : ∀ h', IsZf h' z TI TO (rawInt T0) true → h'.IsTupleIter i1 l1 (k1 + 1) → h'.IsListIter i2 l2 (k2 + 1) → IsPair h' s.heap.objs.size x y → h'.objs.size = s.heap.objs.size + 1 →
      (∀ c o, c ≠ z → c ≠ i1 → c ≠ i2 → s.heap.get? c = some o → h'.get? c = some o) → Q (.ref s.heap.objs.size) { s with heap := h' }) :
    wpAny (model prog w) A (Builtin.«zip.__next__» ⟨[.ref z], []⟩) (fun fin s' => ∃ v, fin = .done (.ret v) ∧ Q v s') E s := by
  show wpAny _ _ (field (.ref z) 2 >>= _) _ _ _
  refine wpAny_bind (wpAny_field hz rfl (x := .bool false) rfl ?_)
  show wpAny _ _ (field (.ref z) 3 >>= _) _ _ _
  refine wpAny_bind (wpAny_field hz rfl (x := .ref TI) rfl ?_)
  refine wpAny_bind (wpAny_seqItems hTI rfl ?_)
  show wpAny _ _ (Builtin.SmallTypes.ownedTupleIsFree (.ref z) >>= _) _ _ _
  refine wpAny_bind (free_out hz hT0 fun h₁ hz₁ hs₁ => ?_)
  simp only [Bool.false_eq_true, if_false, List.forIn_toArray, List.forIn_cons, List.forIn_nil]
  refine wpAny_bind (wpAny_bind (wpAny_bind (wpAny_holding ?_)))
  show wpAny _ _ (Builtin.SmallTypes.nextOf (.ref i1) >>= _) _ _ _
  refine wpAny_bind (RZ.nextOf_tuple_item (h1.extBut hs₁.extBut D.i1z) (hl1.extBut hs₁.extBut D.l1z) hx fun h₂ h1₂ hs₂ => wpAny_pure ?_)
  refine wpAny_pure ?_
  refine wpAny_bind (wpAny_bind (wpAny_holding ?_))
  show wpAny _ _ (Builtin.SmallTypes.nextOf (.ref i2) >>= _) _ _ _
  refine wpAny_bind (wpAny_nextOf_list_item ((h2.extBut hs₁.extBut D.i2z).extBut hs₂.extBut D.i12.symm) ((hl2.extBut hs₁.extBut D.l2z).extBut hs₂.extBut D.l2i1) hy fun h₄ h2₄ hs₄ => wpAny_pure ?_)
  refine wpAny_pure (wpAny_pure ?_)
  refine wpAny_bind (wpAny_newTuple ?_ (by show 2 ≤ sizeLine; decide))
  have hsz : h₄.objs.size = s.heap.objs.size := by rw [hs₄.1, hs₂.1, hs₁.1]
  have hz₄ : IsZf h₄ z TI TO (rawInt T0) true := hs₄.extBut _ _ D.i2z.symm (hs₂.extBut _ _ D.i1z.symm hz₁)
  have hk₄ : ∀ c o, c ≠ z → c ≠ i1 → c ≠ i2 → s.heap.get? c = some o → h₄.get? c = some o := fun c o c1 c3 c4 e =>
    hs₄.extBut _ _ c4 (hs₂.extBut _ _ c3 (hs₁.extBut _ _ c1 e))
  have h1₄ : h₄.IsTupleIter i1 l1 (k1 + 1) := h1₂.extBut hs₄.extBut D.i12
  refine wpAny_pure ⟨_, rfl, ?_⟩
  show Q (.ref h₄.objs.size) { s with heap := h₄.push { cls := .type "tuple", data := .seq #[x, y] } }
  have gT : IsPair (h₄.push { cls := .type "tuple", data := .seq #[x, y] }) h₄.objs.size x y := Heap.get?_push_size _ rfl
  have gz : (h₄.push { cls := .type "tuple", data := .seq #[x, y] }).objs.size = h₄.objs.size + 1 := Heap.size_push ..
  
  have hQ' := hQ (h₄.push { cls := .type "tuple", data := .seq #[x, y] }) (Heap.get?_push_of_some _ hz₄) (h1₄.at fun o e => Heap.get?_push_of_some _ e) (h2₄.at fun o e => Heap.get?_push_of_some _ e) (by rw [← hsz]; exact gT) (by rw [gz, hsz]) fun c o c1 c3 c4 e => Heap.get?_push_of_some _ (hk₄ c o c1 c3 c4 e)
  rw [hsz]
  exact hQ'
/-- the end, the owned tuple out -/
theorem next_end {z TI TO i1 i2 l1 l2 T0 : Addr} {f1 : Bool} {oT : Obj} {k1 : Nat} {xs : Array Value} {Q : Fin → Shared → Prop} (hh : A.handled = none) (D : ZipApart z TI TO i1 i2 l1 l2)
    (hz : IsZf s.heap z TI TO (rawInt T0) f1) (hT0 : s.heap.get? T0 = some oT) (hTI : IsPair s.heap TI (.ref i1) (.ref i2))
    (h1 : s.heap.IsTupleIter i1 l1 k1) (hl1 : s.heap.IsTuple l1 xs) (hx : xs[k1]? = none)
    (hE : ∀ h' e, (∀ c o, c ≠ z → c ≠ i1 → s.heap.get? c = some o → h'.get? c = some o) → (∃ o, h'.get? e = some o ∧ o.cls = .type "StopIteration") → E (.ref e) { s with heap := h' }) :
    wpAny (model prog w) A (Builtin.«zip.__next__» ⟨[.ref z], []⟩) Q E s := by
  show wpAny _ _ (field (.ref z) 2 >>= _) _ _ _
  refine wpAny_bind (wpAny_field hz rfl (x := .bool false) rfl ?_)
  show wpAny _ _ (field (.ref z) 3 >>= _) _ _ _
  refine wpAny_bind (wpAny_field hz rfl (x := .ref TI) rfl ?_)
  refine wpAny_bind (wpAny_seqItems hTI rfl ?_)
  show wpAny _ _ (Builtin.SmallTypes.ownedTupleIsFree (.ref z) >>= _) _ _ _
  refine wpAny_bind (free_out hz hT0 fun h₁ hz₁ hs₁ => ?_)
  simp only [Bool.false_eq_true, if_false, List.forIn_toArray, List.forIn_cons, List.forIn_nil]
  refine wpAny_bind (wpAny_bind (wpAny_bind (wpAny_holding ?_)))
  show wpAny _ _ (Builtin.SmallTypes.nextOf (.ref i1) >>= _) _ _ _
  refine wpAny_bind (RZ.nextOf_tuple_end hh (h1.extBut hs₁.extBut D.i1z) (hl1.extBut hs₁.extBut D.l1z) hx fun h₂ e hs₂ he => ?_)
  exact hE h₂ e (fun c o c1 c3 x => hs₂ _ _ c3 (hs₁.extBut _ _ c1 x)) he

theorem pyNext_first {z TI TO i1 i2 l1 l2 : Addr} {k1 k2 : Nat} {xs ys : Array Value} {x y a b : Value} {Q : Option Value → Shared → Prop} (D : ZipApart z TI TO i1 i2 l1 l2)
    (hz : IsZf s.heap z TI TO .none false) (hTI : IsPair s.heap TI (.ref i1) (.ref i2)) (hTO : IsPair s.heap TO a b)
    (h1 : s.heap.IsTupleIter i1 l1 k1) (h2 : s.heap.IsListIter i2 l2 k2) (hl1 : s.heap.IsTuple l1 xs) (hl2 : s.heap.IsList l2 ys) (hx : xs[k1]? = some x) (hy : ys[k2]? = some y)
    (hQ : ∀ h', IsZf h' z TI TO (rawInt s.heap.objs.size) false → IsPair h' TO x y → h'.IsTupleIter i1 l1 (k1 + 1) → h'.IsListIter i2 l2 (k2 + 1) → IsPair h' s.heap.objs.size x y → h'.objs.size = s.heap.objs.size + 1 →
      (∀ c o, c ≠ z → c ≠ TO → c ≠ i1 → c ≠ i2 → s.heap.get? c = some o → h'.get? c = some o) → Q (some (.ref s.heap.objs.size)) { s with heap := h' }) :
    wpAny (model prog w) A (pyNext (.ref z)) Q E s := by
  have hT : s.TypeIs (.ref z) "zip" := ⟨_, hz, rfl⟩
  unfold pyNext
  exact wpAny_bind (wpAny_attempt (wpAny_callSpecial?_slot (name := Str.ofString "__next__") hT F.slot_zip_next
    (wpAny_call_entry F.slot_zip_next hT F.entry_zip_next
      (next_first D hz hTI hTO h1 h2 hl1 hl2 hx hy fun h' a1 a2 a3 a4 a5 a6 a7 => wpAny_pure (hQ h' a1 a2 a3 a4 a5 a6 a7)) (F.args_zip_next_1 _))))
theorem pyNext_later {z TI TO i1 i2 l1 l2 T0 : Addr} {f1 : Bool} {oT : Obj} {k1 k2 : Nat} {xs ys : Array Value} {x y : Value} {Q : Option Value → Shared → Prop} (D : ZipApart z TI TO i1 i2 l1 l2)
    (hz : IsZf s.heap z TI TO (rawInt T0) f1) (hT0 : s.heap.get? T0 = some oT) (hTI : IsPair s.heap TI (.ref i1) (.ref i2))
    (h1 : s.heap.IsTupleIter i1 l1 k1) (h2 : s.heap.IsListIter i2 l2 k2) (hl1 : s.heap.IsTuple l1 xs) (hl2 : s.heap.IsList l2 ys) (hx : xs[k1]? = some x) (hy : ys[k2]? = some y)
    (hQ : ∀ h', IsZf h' z TI TO (rawInt T0) true → h'.IsTupleIter i1 l1 (k1 + 1) → h'.IsListIter i2 l2 (k2 + 1) → IsPair h' s.heap.objs.size x y → h'.objs.size = s.heap.objs.size + 1 →
      (∀ c o, c ≠ z → c ≠ i1 → c ≠ i2 → s.heap.get? c = some o → h'.get? c = some o) → Q (some (.ref s.heap.objs.size)) { s with heap := h' }) :
    wpAny (model prog w) A (pyNext (.ref z)) Q E s := by
  have hT : s.TypeIs (.ref z) "zip" := ⟨_, hz, rfl⟩
  unfold pyNext
  exact wpAny_bind (wpAny_attempt (wpAny_callSpecial?_slot (name := Str.ofString "__next__") hT F.slot_zip_next
    (wpAny_call_entry F.slot_zip_next hT F.entry_zip_next
      (next_later D hz hT0 hTI h1 h2 hl1 hl2 hx hy fun h' a1 a3 a4 a5 a6 a7 => wpAny_pure (hQ h' a1 a3 a4 a5 a6 a7)) (F.args_zip_next_1 _))))
theorem pyNext_end {z TI TO i1 i2 l1 l2 T0 : Addr} {f1 : Bool} {oT : Obj} {k1 : Nat} {xs : Array Value} {Q : Option Value → Shared → Prop} (hh : A.handled = none) (D : ZipApart z TI TO i1 i2 l1 l2)
    (hz : IsZf s.heap z TI TO (rawInt T0) f1) (hT0 : s.heap.get? T0 = some oT) (hTI : IsPair s.heap TI (.ref i1) (.ref i2))
    (h1 : s.heap.IsTupleIter i1 l1 k1) (hl1 : s.heap.IsTuple l1 xs) (hx : xs[k1]? = none)
    (hQ : ∀ h', (∀ c o, c ≠ z → c ≠ i1 → s.heap.get? c = some o → h'.get? c = some o) → Q none { s with heap := h' }) : wpAny (model prog w) A (pyNext (.ref z)) Q E s := by
  have hT : s.TypeIs (.ref z) "zip" := ⟨_, hz, rfl⟩
  unfold pyNext
  refine wpAny_bind (wpAny_attempt (wpAny_callSpecial?_slot (name := Str.ofString "__next__") hT F.slot_zip_next
    (wpAny_call_entry F.slot_zip_next hT F.entry_zip_next (next_end hh D hz hT0 hTI h1 hl1 hx fun h' e hk he => ?_) (F.args_zip_next_1 _))))
  obtain ⟨o, ho, hc⟩ := he
  refine wpAny_bind (wpAny_isInstance (T := "StopIteration") (b := true) ⟨o, ho, hc⟩ isSubtype_stop ?_)
  exact wpAny_pure (hQ _ hk)
theorem pyIter_z {z TI TO : Addr} {f0 : Value} {f1 : Bool} {Q : Value → Shared → Prop} (hz : IsZf s.heap z TI TO f0 f1) (h : Q (.ref z) s) : wpAny (model prog w) A (pyIter (.ref z)) Q E s := by
  have hT : s.TypeIs (.ref z) "zip" := ⟨_, hz, rfl⟩
  refine wpAny_pyIter_slot hT F.slot_zip_iter (wpAny_call_entry F.slot_zip_iter hT F.entry_zip_iter ?_ (F.args_zip_iter_1 _))
  show wpAny _ _ (ret (.ref z)) _ _ s
  exact wpAny_pure ⟨_, rfl, "zip", _, hT, F.slot_zip_next.lookup, h⟩
end
end ZL

namespace ZL
open PySem
open PySem.Sem (wp)
/-- the pairs made so far -/
structure GP (xs ys : Array Value) (lo : Addr) (h : Heap) (as : List Addr) : Prop where
  rise : as.Pairwise (· < ·)
  above : ∀ a ∈ as, lo < a ∧ a < h.objs.size
  pairs : ∀ (j : Nat) (a : Addr), as[j]? = some a → ∃ x y, xs[j]? = some x ∧ ys[j]? = some y ∧ IsPair h a x y
theorem GP.keep {xs ys : Array Value} {lo : Addr} {h h' : Heap} {as : List Addr} (g : GP xs ys lo h as) (hz : h.objs.size ≤ h'.objs.size) (hk : ∀ a ∈ as, ∀ o, h.get? a = some o → h'.get? a = some o) : GP xs ys lo h' as :=
  ⟨g.rise, fun a ha => ⟨(g.above a ha).1, Nat.lt_of_lt_of_le (g.above a ha).2 hz⟩, fun j a ha => let ⟨x, y, e1, e2, e3⟩ := g.pairs j a ha; ⟨x, y, e1, e2, hk a (List.mem_of_getElem? ha) _ e3⟩⟩
theorem GP.snoc {xs ys : Array Value} {lo : Addr} {h : Heap} {as : List Addr} {T : Addr} {x y : Value} (g : GP xs ys lo h as) (hT : ∀ a ∈ as, a < T) (hl : lo < T) (hx : xs[as.length]? = some x) (hy : ys[as.length]? = some y) (hp : IsPair h T x y) : GP xs ys lo h (as ++ [T]) where
  rise := List.pairwise_append.mpr ⟨g.rise, List.pairwise_singleton _ _, fun a ha b hb => by rw [List.mem_singleton.mp hb]; exact hT a ha⟩
  above := fun a ha => by
    rcases List.mem_append.mp ha with ha | ha
    · exact g.above a ha
    · rw [List.mem_singleton.mp ha]; exact ⟨hl, Heap.lt_size hp⟩
  pairs := fun j a ha => by
    by_cases hj : j < as.length
    · rw [List.getElem?_append_left hj] at ha; exact g.pairs j a ha
    · rw [List.getElem?_append_right (by omega)] at ha
      have hj0 : j = as.length := by
        have := (List.getElem?_eq_some_iff.mp ha).1
        simp at this
        omega
      subst hj0
      have : T = a := by simpa using ha
      subst this
      exact ⟨x, y, hx, hy, hp⟩
theorem ne_up {a b c : Addr} (h : a < b) (h2 : b < c) : c ≠ a := fun e => Nat.lt_irrefl _ (Nat.lt_trans h (e ▸ h2))
section
variable {prog : Program} {w : World} {A : Around} {E : Value → Shared → Prop} {R : Result → Shared → Prop}
abbrev lstO (acc : Array Value) (c : Nat) : Obj := { cls := .type "list", dict := none, data := .seq acc c, slots := #[] }

theorem loop_later {z TI TO i1 i2 l1 l2 : Addr} {xs ys : Array Value} {n : Nat} (hh : A.handled = none) (D : ZipApart z TI TO i1 i2 l1 l2) (hxn : xs.size = n) (hyn : ys.size = n) (hn : n ≤ 16777216)
    (S : Addr) (hSz : S ≠ z) (hS1 : S ≠ i1) (hS2 : S ≠ i2) (hSI : S ≠ TI) (hSl1 : S ≠ l1) (hSl2 : S ≠ l2) (hzS : z < S ∧ TI < S ∧ i1 < S ∧ i2 < S ∧ l1 < S ∧ l2 < S) (res : Value) :
    ∀ (k i : Nat) (s : Shared) (acc : Array Value) (c : Nat) (as : List Addr) (T0 : Addr) (f1 : Bool), n - i = k → i ≤ n → IsZf s.heap z TI TO (rawInt T0) f1 → T0 ∈ as → IsPair s.heap TI (.ref i1) (.ref i2) →
    s.heap.IsTupleIter i1 l1 i → s.heap.IsListIter i2 l2 i → s.heap.IsTuple l1 xs → s.heap.IsList l2 ys → s.heap.get? S = some (lstO acc c) → acc.toList = as.map Value.ref → as.length = i → GP xs ys S s.heap as →
    (∀ h' tk acc' c' as', (∀ b o, b ≠ S → b ≠ z → b ≠ i1 → b ≠ i2 → s.heap.get? b = some o → h'.get? b = some o) → h'.get? S = some (lstO acc' c') → acc'.toList = as'.map Value.ref → as'.length = n → GP xs ys S h' as' → R (.ok (.ret res)) { s with heap := h', toks := tk }) →
    codeAny (model prog w) A (.builtin "list.extend.loop" ⟨[.ref S, .ref z, res], []⟩) R s := by
  intro k
  induction k with
  | zero =>
    intro i s acc c as T0 f1 hk hi hz hT0 hTI h1 h2 hl1 hl2 hS hacc hlen hG hR
    have hin : i = n := by omega
    subst hin
    refine codeAny_builtin F.entry_extend_loop ?_
    rw [Around.under_plainId F.plain_extend_loop _]
    show wpAny _ A.in1 (pyNext (.ref z) >>= _) _ _ s
    obtain ⟨j, hj⟩ := List.mem_iff_getElem?.mp hT0
    obtain ⟨x, y, _, _, hp⟩ := hG.pairs j T0 hj
    refine wpAny_bind (pyNext_end (A := A.in1) hh D hz hp hTI h1 hl1 (by rw [Array.getElem?_eq_none (by omega)]) fun h' hk' => ?_)
    refine wpAny_pure (hR h' s.toks acc c as (fun b o _ b1 b2 _ e => hk' b o b1 b2 e) (hk' _ _ hSz hS1 hS) hacc hlen ?_)
    have hlt : ∀ a ∈ as, ∀ o, s.heap.get? a = some o → h'.get? a = some o := fun a ha o e => hk' a o (ne_up hzS.1 (hG.above a ha).1) (ne_up hzS.2.2.1 (hG.above a ha).1) e
    refine ⟨hG.rise, fun a ha => ⟨(hG.above a ha).1, ?_⟩, fun j a ha => let ⟨x, y, e1, e2, e3⟩ := hG.pairs j a ha; ⟨x, y, e1, e2, hlt a (List.mem_of_getElem? ha) _ e3⟩⟩
    obtain ⟨j, hj⟩ := List.mem_iff_getElem?.mp ha
    obtain ⟨x, y, _, _, hp⟩ := hG.pairs j a hj
    exact Heap.lt_size (hlt a ha _ hp)
  | succ k ih =>
    intro i s acc c as T0 f1 hk hi hz hT0 hTI h1 h2 hl1 hl2 hS hacc hlen hG hR
    have hlt : i < n := by omega
    refine codeAny_builtin F.entry_extend_loop ?_
    rw [Around.under_plainId F.plain_extend_loop _]
    show wpAny _ A.in1 (pyNext (.ref z) >>= _) _ _ s
    obtain ⟨j, hj⟩ := List.mem_iff_getElem?.mp hT0
    obtain ⟨x0, y0, _, _, hp⟩ := hG.pairs j T0 hj
    have hxi : xs[i]? = some (xs[i]'(by omega)) := Array.getElem?_eq_getElem _
    have hyi : ys[i]? = some (ys[i]'(by omega)) := Array.getElem?_eq_getElem _
    refine wpAny_bind (pyNext_later (A := A.in1) D hz hp hTI h1 h2 hl1 hl2 hxi hyi fun h₁ hz₁ h1₁ h2₁ hp₁ hsz₁ hk₁ => ?_)
    have hS₁ : h₁.get? S = some (lstO acc c) := hk₁ _ _ hSz hS1 hS2 hS
    have hSlt : S < s.heap.objs.size := Heap.lt_size hS
    have hab : ∀ a ∈ as, ∀ o, s.heap.get? a = some o → h₁.get? a = some o := fun a ha o e => by
      have q := (hG.above a ha).1
      exact hk₁ a o (ne_up hzS.1 q) (ne_up hzS.2.2.1 q) (ne_up hzS.2.2.2.1 q) e
    have hG₁ : GP xs ys S h₁ as := hG.keep (by omega) hab
    have hG₂ : GP xs ys S h₁ (as ++ [s.heap.objs.size]) := hG₁.snoc (fun a ha => (hG.above a ha).2) hSlt (by rw [hlen]; exact hxi) (by rw [hlen]; exact hyi) hp₁
    show wpAny _ A.in1 (updateSeq S (·.push (.ref s.heap.objs.size)) >>= _) _ _ _
    refine wpAny_bind ?_
    have hasz : acc.size = i := by have := congrArg List.length hacc; rw [List.length_map, Array.length_toList] at this; omega
    have oth : ∀ b o, b ≠ S → h₁.get? b = some o → (h₁.update S (Obj.mapSeq (·.push (Value.ref s.heap.objs.size)))).get? b = some o := fun b o hb e => (Heap.get?_update_other _ _ (Ne.symm hb)).trans e
    have hsu : (h₁.update S (Obj.mapSeq (·.push (Value.ref s.heap.objs.size)))).objs.size = h₁.objs.size := (Heap.SameBut.update ..).1
    refine wpAny_updateSeq hS₁ rfl (wpAny_pure ⟨plainId_quiet F.plain_extend_loop _, ih (i + 1) _ (acc.push (.ref s.heap.objs.size)) _ (as ++ [s.heap.objs.size]) T0 true (by omega) hlt (oth _ _ (Ne.symm hSz) hz₁) (List.mem_append_left _ hT0) (oth _ _ (Ne.symm hSI) (hk₁ _ _ D.TIz D.TIi1 D.TIi2 hTI))
      (h1₁.at fun o e => oth _ _ (Ne.symm hS1) e) (h2₁.at fun o e => oth _ _ (Ne.symm hS2) e) ((hl1.at fun o e => hk₁ _ o D.l1z D.l1i1 D.l1i2 e).at fun o e => oth _ _ (Ne.symm hSl1) e) ((hl2.at fun o e => hk₁ _ o D.l2z D.l2i1 D.l2i2 e).at fun o e => oth _ _ (Ne.symm hSl2) e)
      (Heap.get?_update_self _ hS₁ rfl) (by rw [Array.toList_push, hacc, List.map_append]; rfl) (by rw [List.length_append, hlen]; rfl)
      (hG₂.keep (Nat.le_of_eq hsu.symm) fun a ha o e => oth a o (Nat.ne_of_gt (hG₂.above a ha).1) e) fun h' tk acc' c' as' hk' hS' e1 e2 e3 => ?_⟩)
      (by rw [hasz, sizeLine_eq]; omega) (by show (acc.push _).size ≤ sizeLine + 1; rw [Array.size_push, hasz, sizeLine_eq]; omega)
    exact hR h' tk acc' c' as' (fun b o b0 b1 b2 b3 e => hk' b o b0 b1 b2 b3 (oth b o b0 (hk₁ b o b1 b2 b3 e))) hS' e1 e2 e3
end
end ZL

namespace ZL
open PySem PySem.Spec PyProof.Rows
open PySem.Sem (wp)
theorem nolen_zip : typeLookup (.type "zip") "__len__" = pure none := by rw [typeLookup_type, builtinLookup_eq_fast]; kernel_rfl
theorem nohint_zip : typeLookup (.type "zip") "__length_hint__" = pure none := by rw [typeLookup_type, builtinLookup_eq_fast]; kernel_rfl
section
variable {prog : Program} {w : World} {A : Around} {E : Value → Shared → Prop} {R : Result → Shared → Prop} {s : Shared}
theorem loop_zip {z TI TO i1 i2 l1 l2 : Addr} {xs ys : Array Value} {a b : Value} {n : Nat} (hh : A.handled = none) (D : ZipApart z TI TO i1 i2 l1 l2) (hxn : xs.size = n) (hyn : ys.size = n) (hn : n ≤ 16777216) (hn0 : 0 < n)
    (S : Addr) (hzS : z < S ∧ TI < S ∧ TO < S ∧ i1 < S ∧ i2 < S ∧ l1 < S ∧ l2 < S) (res : Value) (c : Nat)
    (hz : IsZf s.heap z TI TO .none false) (hTI : IsPair s.heap TI (.ref i1) (.ref i2)) (hTO : IsPair s.heap TO a b) (h1 : s.heap.IsTupleIter i1 l1 0) (h2 : s.heap.IsListIter i2 l2 0) (hl1 : s.heap.IsTuple l1 xs) (hl2 : s.heap.IsList l2 ys)
    (hS : s.heap.get? S = some (lstO #[] c))
    (hR : ∀ h' tk acc' c' as', (∀ b o, b ≠ S → b ≠ z → b ≠ TO → b ≠ i1 → b ≠ i2 → s.heap.get? b = some o → h'.get? b = some o) → h'.get? S = some (lstO acc' c') → acc'.toList = as'.map Value.ref → as'.length = n → GP xs ys S h' as' → R (.ok (.ret res)) { s with heap := h', toks := tk }) :
    codeAny (model prog w) A (.builtin "list.extend.loop" ⟨[.ref S, .ref z, res], []⟩) R s := by
  obtain ⟨q1, q2, q3, q4, q5, q6, q7⟩ := hzS
  refine codeAny_builtin F.entry_extend_loop ?_
  rw [Around.under_plainId F.plain_extend_loop _]
  show wpAny _ A.in1 (pyNext (.ref z) >>= _) _ _ s
  have hxi : xs[0]? = some (xs[0]'(by omega)) := Array.getElem?_eq_getElem _
  have hyi : ys[0]? = some (ys[0]'(by omega)) := Array.getElem?_eq_getElem _
  refine wpAny_bind (pyNext_first (A := A.in1) D hz hTI hTO h1 h2 hl1 hl2 hxi hyi fun h₁ hz₁ _ h1₁ h2₁ hp₁ hsz₁ hk₁ => ?_)
  have hS₁ : h₁.get? S = some (lstO #[] c) := hk₁ _ _ (Nat.ne_of_gt q1) (Nat.ne_of_gt q3) (Nat.ne_of_gt q4) (Nat.ne_of_gt q5) hS
  have hSlt : S < s.heap.objs.size := Heap.lt_size hS
  show wpAny _ A.in1 (updateSeq S (·.push (.ref s.heap.objs.size)) >>= _) _ _ _
  refine wpAny_bind ?_
  have oth : ∀ b o, b ≠ S → h₁.get? b = some o → (h₁.update S (Obj.mapSeq (·.push (Value.ref s.heap.objs.size)))).get? b = some o := fun b o hb e => (Heap.get?_update_other _ _ (Ne.symm hb)).trans e
  have hsu : (h₁.update S (Obj.mapSeq (·.push (Value.ref s.heap.objs.size)))).objs.size = h₁.objs.size := (Heap.SameBut.update ..).1
  have hG0 : GP xs ys S h₁ [] := ⟨.nil, fun a ha => (nomatch ha), fun j a ha => by simp at ha⟩
  have hG₂ : GP xs ys S h₁ ([] ++ [s.heap.objs.size]) := hG0.snoc (fun a ha => (nomatch ha)) hSlt hxi hyi hp₁
  refine wpAny_updateSeq hS₁ rfl (wpAny_pure ⟨plainId_quiet F.plain_extend_loop _, loop_later hh D hxn hyn hn S (Nat.ne_of_gt q1) (Nat.ne_of_gt q4) (Nat.ne_of_gt q5) (Nat.ne_of_gt q2) (Nat.ne_of_gt q6) (Nat.ne_of_gt q7) ⟨q1, q2, q4, q5, q6, q7⟩ res (n - 1) 1 _ ((#[] : Array Value).push (.ref s.heap.objs.size)) _ [s.heap.objs.size] s.heap.objs.size false (by omega) (by omega)
      (oth _ _ (Nat.ne_of_lt q1) hz₁) (List.mem_singleton.mpr rfl) (oth _ _ (Nat.ne_of_lt q2) (hk₁ _ _ D.TIz D.TITO D.TIi1 D.TIi2 hTI))
      (h1₁.at fun o e => oth _ _ (Nat.ne_of_lt q4) e) (h2₁.at fun o e => oth _ _ (Nat.ne_of_lt q5) e) ((hl1.at fun o e => hk₁ _ o D.l1z D.l1TO D.l1i1 D.l1i2 e).at fun o e => oth _ _ (Nat.ne_of_lt q6) e) ((hl2.at fun o e => hk₁ _ o D.l2z D.l2TO D.l2i1 D.l2i2 e).at fun o e => oth _ _ (Nat.ne_of_lt q7) e)
      (Heap.get?_update_self _ hS₁ rfl) rfl rfl
      (hG₂.keep (Nat.le_of_eq hsu.symm) fun a ha o e => oth a o (Nat.ne_of_gt (hG₂.above a ha).1) e) fun h' tk acc' c' as' hk' hS' e1 e2 e3 => ?_⟩)
      (by rw [sizeLine_eq]; exact Nat.zero_le _) (by show 1 ≤ sizeLine + 1; omega)
  exact hR h' tk acc' c' as' (fun b o b0 b1 b2 b3 b4 e => hk' b o b0 b1 b3 b4 (oth b o b0 (hk₁ b o b1 b2 b3 b4 e))) hS' e1 e2 e3
theorem extend_zip {z TI TO i1 i2 l1 l2 : Addr} {xs ys : Array Value} {a b : Value} {n : Nat} (hh : A.handled = none) (D : ZipApart z TI TO i1 i2 l1 l2) (hxn : xs.size = n) (hyn : ys.size = n) (hn : n ≤ 16777216) (hn0 : 0 < n)
    (S : Addr) (hzS : z < S ∧ TI < S ∧ TO < S ∧ i1 < S ∧ i2 < S ∧ l1 < S ∧ l2 < S) (res : Value) (c : Nat)
    (hz : IsZf s.heap z TI TO .none false) (hTI : IsPair s.heap TI (.ref i1) (.ref i2)) (hTO : IsPair s.heap TO a b) (h1 : s.heap.IsTupleIter i1 l1 0) (h2 : s.heap.IsListIter i2 l2 0) (hl1 : s.heap.IsTuple l1 xs) (hl2 : s.heap.IsList l2 ys)
    (hS : s.heap.get? S = some (lstO #[] c))
    (hR : ∀ h' tk acc' c' as', (∀ b o, b ≠ S → b ≠ z → b ≠ TO → b ≠ i1 → b ≠ i2 → s.heap.get? b = some o → h'.get? b = some o) → h'.get? S = some (lstO acc' c') → acc'.toList = as'.map Value.ref → as'.length = n → GP xs ys S h' as' → R (.ok (.ret res)) { s with heap := h', toks := tk }) :
    wpAny (model prog w) A.in1 (Builtin.List.listExtendWith (.ref S) (.ref z) res)
      (fun fin s' => match fin with | .done f => R (.ok f) s' | .again c' => c'.quiet = true ∧ codeAny (model prog w) A c' R s') (fun e s' => R (.error e) s') s := by
  have hSI : S ≠ z := Nat.ne_of_gt hzS.1
  have hT : s.TypeIs (.ref z) "zip" := ⟨_, hz, rfl⟩
  unfold Builtin.List.listExtendWith
  refine wpAny_bind (wpAny_typeOf hT ?_)
  have h1' : Builtin.List.listSameRef (.ref S) (.ref z) = false := by simp [Builtin.List.listSameRef, hSI]
  have h2' : (Value.type "zip" == Value.type "list") = false := by decide
  have h3' : (Value.type "zip" == Value.type "tuple") = false := by decide
  simp only [h1', h2', h3', Bool.or_false, Bool.false_eq_true, if_false]
  refine wpAny_bind (pyIter_z hz ?_)
  refine wpAny_bind (wpAny_holding ?_)
  unfold Builtin.List.listLengthHint
  refine wpAny_bind (wpAny_specialOf hT nolen_zip ?_)
  show wpAny _ A.in1 (specialOf (Value.ref z) (Str.ofString "__length_hint__") >>= _) _ _ _
  refine wpAny_bind (wpAny_specialOf hT nohint_zip ?_)
  refine wpAny_pure ?_
  show wpAny _ A.in1 (rule "list.extend.makes-room" >>= fun _ => Builtin.List.listTouch (.ref S) >>= fun _ =>
    again (.builtin "list.extend.loop" ⟨[.ref S, .ref z, res], []⟩)) _ _ _
  refine wpAny_bind (wpAny_rule ?_)
  refine wpAny_bind ?_
  show wpAny _ A.in1 (updateSeq S (·.push .none) >>= fun _ => updateSeq S (·.pop)) _ _ _
  refine wpAny_bind (wpAny_updateSeq hS rfl ?_)
  have hS₂ := Heap.get?_update_self (Obj.mapSeq (·.push Value.none)) hS rfl
  refine wpAny_updateSeq hS₂ rfl ?_
  have hS₃ := Heap.get?_update_self (Obj.mapSeq (·.pop)) hS₂ rfl
  have oth : ∀ b o, b ≠ S → s.heap.get? b = some o →
      ((s.heap.update S (Obj.mapSeq (·.push Value.none))).update S (Obj.mapSeq (·.pop))).get? b = some o :=
    fun b o hb e => (Heap.get?_update_other _ _ (Ne.symm hb)).trans ((Heap.get?_update_other _ _ (Ne.symm hb)).trans e)
  obtain ⟨q1, q2, q3, q4, q5, q6, q7⟩ := id hzS
  refine wpAny_pure ⟨plainId_quiet F.plain_extend_loop _, loop_zip hh D hxn hyn hn hn0 S hzS res _ (oth _ _ (Nat.ne_of_lt q1) hz) (oth _ _ (Nat.ne_of_lt q2) hTI) (oth _ _ (Nat.ne_of_lt q3) hTO)
    (h1.at fun o e => oth _ _ (Nat.ne_of_lt q4) e) (h2.at fun o e => oth _ _ (Nat.ne_of_lt q5) e) (hl1.at fun o e => oth _ _ (Nat.ne_of_lt q6) e) (hl2.at fun o e => oth _ _ (Nat.ne_of_lt q7) e) hS₃ fun h' tk acc' c' as' hk' hS' e1 e2 e3 => ?_⟩
  exact hR h' tk acc' c' as' (fun b o b0 b1 b2 b3 b4 e => hk' b o b0 b1 b2 b3 b4 (oth b o b0 e)) hS' e1 e2 e3
theorem init_zip {z TI TO i1 i2 l1 l2 : Addr} {xs ys : Array Value} {a b : Value} {n : Nat} (hh : A.handled = none) (D : ZipApart z TI TO i1 i2 l1 l2) (hxn : xs.size = n) (hyn : ys.size = n) (hn : n ≤ 16777216) (hn0 : 0 < n)
    (S : Addr) (hzS : z < S ∧ TI < S ∧ TO < S ∧ i1 < S ∧ i2 < S ∧ l1 < S ∧ l2 < S)
    (hz : IsZf s.heap z TI TO .none false) (hTI : IsPair s.heap TI (.ref i1) (.ref i2)) (hTO : IsPair s.heap TO a b) (h1 : s.heap.IsTupleIter i1 l1 0) (h2 : s.heap.IsListIter i2 l2 0) (hl1 : s.heap.IsTuple l1 xs) (hl2 : s.heap.IsList l2 ys)
    (hS : s.heap.get? S = some { cls := .type "list", data := .seq #[] })
    (hR : ∀ h' tk acc' c' as', (∀ b o, b ≠ S → b ≠ z → b ≠ TO → b ≠ i1 → b ≠ i2 → s.heap.get? b = some o → h'.get? b = some o) → h'.get? S = some (lstO acc' c') → acc'.toList = as'.map Value.ref → as'.length = n → GP xs ys S h' as' → R (.ok (.ret .none)) { s with heap := h', toks := tk }) :
    wpAny (model prog w) A.in1 (Builtin.«list.__init__» ⟨[.ref S, .ref z], []⟩)
      (fun fin s' => match fin with | .done f => R (.ok f) s' | .again c' => c'.quiet = true ∧ codeAny (model prog w) A c' R s') (fun e s' => R (.error e) s') s := by
  show wpAny _ _ (do let old ← Builtin.List.listItems (.ref S); Builtin.List.listUpdate (.ref S) (fun _ => #[]); letGo old.toList.reverse; Builtin.List.listExtendWith (.ref S) (.ref z) .none) _ _ s
  refine wpAny_bind ?_
  unfold Builtin.List.listItems
  refine wpAny_bind (wpAny_seqItems hS rfl (wpAny_pure ?_))
  show wpAny _ _ (updateSeq S (fun _ => #[]) >>= fun _ => letGo (#[] : Array Value).toList.reverse >>= fun _ => Builtin.List.listExtendWith (.ref S) (.ref z) .none) _ _ s
  refine wpAny_bind (wpAny_updateSeq hS rfl ?_)
  have hS₂ := Heap.get?_update_self (Obj.mapSeq (fun _ => (#[] : Array Value))) hS rfl
  have oth : ∀ b o, b ≠ S → s.heap.get? b = some o → (s.heap.update S (Obj.mapSeq (fun _ => (#[] : Array Value)))).get? b = some o :=
    fun b o hb e => (Heap.get?_update_other _ _ (Ne.symm hb)).trans e
  refine wpAny_bind (wpAny_letGo ?_)
  obtain ⟨q1, q2, q3, q4, q5, q6, q7⟩ := id hzS
  refine extend_zip hh D hxn hyn hn hn0 S hzS .none _ (oth _ _ (Nat.ne_of_lt q1) hz) (oth _ _ (Nat.ne_of_lt q2) hTI) (oth _ _ (Nat.ne_of_lt q3) hTO)
    (h1.at fun o e => oth _ _ (Nat.ne_of_lt q4) e) (h2.at fun o e => oth _ _ (Nat.ne_of_lt q5) e) (hl1.at fun o e => oth _ _ (Nat.ne_of_lt q6) e) (hl2.at fun o e => oth _ _ (Nat.ne_of_lt q7) e) hS₂ fun h' tk acc' c' as' hk' hS' e1 e2 e3 => ?_
  exact hR h' tk acc' c' as' (fun b o b0 b1 b2 b3 b4 e => hk' b o b0 b1 b2 b3 b4 (oth b o b0 e)) hS' e1 e2 e3
theorem call_list_zip {z TI TO i1 i2 l1 l2 : Addr} {xs ys : Array Value} {a b : Value} {n : Nat} {Q : Value → Shared → Prop} (hh : A.handled = none) (D : ZipApart z TI TO i1 i2 l1 l2) (hxn : xs.size = n) (hyn : ys.size = n) (hn : n ≤ 16777216) (hn0 : 0 < n)
    (hz : IsZf s.heap z TI TO .none false) (hTI : IsPair s.heap TI (.ref i1) (.ref i2)) (hTO : IsPair s.heap TO a b) (h1 : s.heap.IsTupleIter i1 l1 0) (h2 : s.heap.IsListIter i2 l2 0) (hl1 : s.heap.IsTuple l1 xs) (hl2 : s.heap.IsList l2 ys)
    (hQ : ∀ h' tk acc' c' as', (∀ b o, b ≠ z → b ≠ TO → b ≠ i1 → b ≠ i2 → s.heap.get? b = some o → h'.get? b = some o) → h'.get? s.heap.objs.size = some (lstO acc' c') → acc'.toList = as'.map Value.ref → as'.length = n → GP xs ys s.heap.objs.size h' as' → Q (.ref s.heap.objs.size) { s with heap := h', toks := tk }) :
    wpAny (model prog w) A (call (.type "list") [.ref z]) Q E s := by
  refine callType_codes (Q₁ := fun obj s₁ => obj = .ref s.heap.objs.size ∧ s₁ = { s with heap := s.heap.push { cls := .type "list", data := .seq #[] } }) F.called_list (F.typeCall_list_1 _) F.entry_list_init
    (code_list_new _ ⟨rfl, rfl⟩) fun obj s₁ h₁ => ?_
  obtain ⟨rfl, rfl⟩ := h₁
  have hS : (s.heap.push { cls := .type "list", data := .seq #[] }).get? s.heap.objs.size = some { cls := .type "list", data := .seq #[] } := Heap.get?_push_size _ rfl
  have up : ∀ b o, s.heap.get? b = some o → (s.heap.push { cls := .type "list", data := .seq #[] }).get? b = some o := fun b o e => Heap.get?_push_of_some _ e
  have lt : ∀ {b o}, s.heap.get? b = some o → b < s.heap.objs.size := fun e => Heap.lt_size e
  have l_i1 : i1 < s.heap.objs.size := by obtain ⟨_, e, _⟩ := h1; exact lt e
  have l_i2 : i2 < s.heap.objs.size := by obtain ⟨_, e, _⟩ := h2; exact lt e
  have l_l1 : l1 < s.heap.objs.size := by obtain ⟨_, e, _⟩ := hl1; exact lt e
  have l_l2 : l2 < s.heap.objs.size := by obtain ⟨_, e, _⟩ := hl2; exact lt e
  refine ⟨⟨_, hS, rfl⟩, F.args_list_init_2 _ _, init_zip (A := A.in1) hh D hxn hyn hn hn0 _ ⟨lt hz, lt hTI, lt hTO, l_i1, l_i2, l_l1, l_l2⟩ (up _ _ hz) (up _ _ hTI) (up _ _ hTO) (h1.at fun o e => up _ _ e) (h2.at fun o e => up _ _ e) (hl1.at fun o e => up _ _ e) (hl2.at fun o e => up _ _ e) hS fun h' tk acc' c' as' hk hS' e1 e2 e3 => ?_⟩
  exact ⟨rfl, hQ h' tk acc' c' as' (fun b o b1 b2 b3 b4 e => hk b o (Nat.ne_of_lt (lt e)) b1 b2 b3 b4 (up b o e)) hS' e1 e2 e3⟩
end
end ZL

namespace ZL
open PySem PySem.Spec PyProof.Rows L2
/-- what stands behind list(zip(..)) -/
structure Laid (xs ys : List V) (l : Addr) (ts : List Addr) (H H' : Hp) : Prop where
  ln : H l = none
  lt : H' l = some (.lst (ts.map V.ref))
  len : ts.length = xs.length
  nodup : ts.Nodup
  ne : l ∉ ts
  pair : ∀ (j : Nat) (t : Addr), ts[j]? = some t → H t = none ∧ ∃ o x y, xs[j]? = some x ∧ ys[j]? = some y ∧ o.dict = none ∧ H' t = some (.frz o (.tup [x, y]))
  rest : ∀ b, b ≠ l → b ∉ ts → H' b = H b
theorem vget' {xs : List V} {us : List Value} {i : Nat} {u : Value} (r : Vals xs us) (h : us[i]? = some u) : ∃ x, xs[i]? = some x ∧ RelV x u := by
  have hl := (List.getElem?_eq_some_iff.mp h).1
  have hx : xs[i]? = some (xs[i]'(by rw [r.length]; exact hl)) := List.getElem?_eq_getElem _
  obtain ⟨u', h1, h2⟩ := Vals.get r hx
  rw [h] at h1
  cases h1
  exact ⟨_, hx, h2⟩
section
variable {X : Cx} {pins : List (Addr × Obj)} {σ : L2.St} {H H' : Hp} {s : Shared} {h' : Heap} {tk : Nat}
theorem Inv.laidL (I : Inv X pins σ H s) (hb : ∀ b, b < s.heap.objs.size → H' b = H b) (k : ∀ b o, s.heap.get? b = some o → h'.get? b = some o)
    (new : ∀ b u, s.heap.objs.size ≤ b → H' b = some u → ObjOk X.prog X.w H' h' b u) : Inv X pins σ H' { s with heap := h', toks := tk } := by
  have lt : ∀ b u, H b = some u → b < s.heap.objs.size := fun b u e => by
    refine Nat.lt_of_not_le fun q => ?_
    rw [I.hok.fresh q] at e; cases e
  have up : ∀ b u, H b = some u → H' b = some u := fun b u e => by rw [hb b (lt b u e)]; exact e
  refine I.call' (s' := { s with heap := h', toks := tk }) (ch := []) rfl ⟨fun b o e _ _ _ => k b o e, fun b o e _ _ _ => ⟨o.slots, k b o e⟩, fun b o e n _ => ?_, fun b o e _ => ⟨o, k b o e⟩, fun b xs e => up b _ e, fun b o u e => up b _ e, fun b ps e => ⟨#[], by rw [up b _ e]; simp⟩⟩ (fun b u e => ?_) I.bare (fun b hb => nomatch hb)
  · rw [hb b (Heap.lt_size e)]; exact n
  · by_cases q : b < s.heap.objs.size
    · rw [hb b q] at e
      exact (I.hok b u e).stay (fun c v _ z => k c v z) (fun c z => up c _ z) fun c xs z => up c _ z
    · exact new b u (Nat.le_of_not_lt q) e
end
def tListZip (K : PySem.W.Frag) (ta : TA) : TE := fun σ H Q => ta σ H fun vs H1 => ∃ a b xs ys, vs = [.ref a, .ref b] ∧ SqT K H1 a xs ∧ SqL K H1 b ys ∧ xs.length = ys.length ∧ 0 < xs.length ∧ xs.length ≤ 16777216 ∧
  ∀ (l : Addr) (ts : List Addr) (H' : Hp), Laid xs ys l ts H1 H' → Q (.ref l) H'
theorem pe_listZip {X : Cx} {e e2 : Expr} {ta : TA} {p p2 pos pos2 : Pos} (hc : X.calm = true) (hgl : Gl X "list") (hml : X.mg "list" = none) (hg : Gl X "zip") (hm : X.mg "zip" = none) (ha : PA X [e, e2] ta)
    (hs : starEach [e, e2] X.env = (false, eval e X.env) :: starEach [e2] X.env := by rfl) (hpl : (backTo pos2 (starEach [e2] X.env)).any (·.1) = false := by rfl)
    (na : starEach [.Call (.Name "zip" p2) [e, e2] [] pos2] X.env = (false, eval (.Call (.Name "zip" p2) [e, e2] [] pos2) X.env) :: starEach [] X.env := by rfl) :
    PE X (.Call (.Name "list" p) [.Call (.Name "zip" p2) [e, e2] [] pos2] [] pos) (tListZip X.K ta) := by
  refine ⟨fun pins s σ H Q I h => ?_⟩
  refine Call_ (ld_blt I hgl hml boot_list (PyProof.Rows.callWith_type1 (args_cons ?_ na) na))
  refine Call_ (ld_blt I hg hm PyProof.Rows.boot_zip (PyProof.Rows.callWith_type1 (thn (ha.run pos2 pins s σ H _ I h) fun us s1 ⟨vs, H1, I1, r1, q1⟩ => ?_) hs hpl))
  obtain ⟨a, b, xs, ys, ex, hqx, hqy, hxy, h0, hn, q⟩ := q1
  subst ex
  cases r1 with
  | cons r rr =>
  cases rr with
  | cons r' rr =>
  cases rr
  cases r
  cases r'
  obtain ⟨its, rv, p1, _⟩ := I1.tuple hqx
  obtain ⟨its2, rv2, p2', _⟩ := I1.list hqy
  refine call_zip_mix (show s1.heap.IsTuple a its.toArray from p1) p2'.isList fun h' hz hTI hTO h1 h2 hsz hk => ?_
  refine args_nil ?_
  have l1 := rv.length
  have l2 := rv2.length
  have la : a < s1.heap.objs.size := by obtain ⟨_, e, _⟩ := p1; exact Heap.lt_size e
  have lb : b < s1.heap.objs.size := p2'.lt
  refine call_list_zip (n := xs.length) (I1.ok.hd hc) (PySem.W.ktu_apart s1.heap.objs.size a b la lb) (by simp; omega) (by simp; omega) hn h0 hz hTI hTO h1 h2 (Heap.IsTuple.at (show s1.heap.IsTuple a its.toArray from p1) fun o e => hk _ o e) (p2'.isList.at fun o e => hk _ o e) fun h'' tk acc c as hk2 hS e1 e2 hG => ?_
  -- the new abstract heap
  have hk3 : ∀ b o, s1.heap.get? b = some o → h''.get? b = some o := fun b o e => by
    have := Heap.lt_size e
    exact hk2 b o (Nat.ne_of_lt (Nat.lt_of_lt_of_le this (Nat.le_add_right _ _))) (Nat.ne_of_lt (Nat.lt_of_lt_of_le this (Nat.le_add_right _ _))) (Nat.ne_of_lt this) (Nat.ne_of_lt (Nat.lt_of_lt_of_le this (Nat.le_add_right _ _))) (hk b o e)
  let l := h'.objs.size
  have hle : s1.heap.objs.size ≤ h'.objs.size := by omega
  let H' : Hp := fun b => if b = l then some (.lst (as.map V.ref)) else if b ∈ as then (match xs[as.idxOf b]?, ys[as.idxOf b]?, h''.get? b with
    | some x, some y, some o => some (.frz o (.tup [x, y]))
    | _, _, _ => none) else H1 b
  have hab : ∀ t ∈ as, s1.heap.objs.size ≤ t ∧ t ≠ l := fun t ht => ⟨Nat.le_trans hle (Nat.le_of_lt (hG.above t ht).1), Nat.ne_of_gt (hG.above t ht).1⟩
  have nd : as.Nodup := hG.rise.imp fun h => Nat.ne_of_lt h
  have pr : ∀ (j : Nat) (t : Addr), as[j]? = some t → ∃ (u1 u2 : Value) (x y : V), xs[j]? = some x ∧ ys[j]? = some y ∧ RelV x u1 ∧ RelV y u2 ∧ IsPair h'' t u1 u2 ∧ H' t = some (.frz { cls := .type "tuple", data := .seq #[u1, u2] } (.tup [x, y])) := fun j t ht => by
    obtain ⟨u1, u2, w1, w2, hp⟩ := hG.pairs j t ht
    obtain ⟨x, hx, rx⟩ := vget' rv (i := j) (u := u1) (by simpa using w1)
    obtain ⟨y, hy, ry⟩ := vget' rv2 (i := j) (u := u2) (by simpa using w2)
    refine ⟨u1, u2, x, y, hx, hy, rx, ry, hp, ?_⟩
    have hm := List.mem_of_getElem? ht
    have hi : as.idxOf t = j := by
      have hlt := (List.getElem?_eq_some_iff.mp ht).1
      have e0 : as[j] = t := (List.getElem?_eq_some_iff.mp ht).2
      rw [← e0]
      exact nd.idxOf_getElem j hlt
    show (if t = l then _ else if t ∈ as then _ else _) = _
    rw [if_neg (hab t hm).2, if_pos hm, hi, hx, hy, hp]
  have hsm : ∀ b, b < s1.heap.objs.size → H' b = H1 b := fun b hb => by
    show (if b = l then _ else if b ∈ as then _ else _) = _
    rw [if_neg (Nat.ne_of_lt (Nat.lt_of_lt_of_le hb hle)), if_neg (fun z => Nat.lt_irrefl _ (Nat.lt_of_lt_of_le hb (hab b z).1))]
  have I2 : Inv X pins σ H' { s1 with heap := h'', toks := tk } := by
    refine Inv.laidL I1 hsm hk3 fun c u hcs e => ?_
    by_cases hcl : c = l
    · subst hcl
      have : H' l = some (.lst (as.map V.ref)) := if_pos rfl
      rw [this] at e
      cases e
      refine ⟨by rw [List.length_map, e2, sizeLine_eq]; omega, acc.toList, c, ?_, ?_⟩
      · rw [e1]
        clear_value H'
        clear e1 e2 hG hab nd pr hsm this
        induction as with
        | nil => exact .nil
        | cons x as ih => exact .cons rfl ih
      · rw [Array.toArray_toList]; exact hS
    · by_cases hca : c ∈ as
      · obtain ⟨j, hj⟩ := List.mem_iff_getElem?.mp hca
        obtain ⟨u1, u2, x, y, _, _, rx, ry, hp, eH⟩ := pr j c hj
        rw [eH] at e
        cases e
        exact ⟨hp, by show 2 ≤ sizeLine; decide, [u1, u2], .cons rx (.cons ry .nil), ⟨_, hp, rfl, _, rfl⟩⟩
      · have : H' c = H1 c := by
          show (if c = l then _ else if c ∈ as then _ else _) = _
          rw [if_neg hcl, if_neg hca]
        rw [this, I1.hok.fresh hcs] at e
        cases e
  refine ⟨.ref l, H', I2, rfl, q l as H' ⟨I1.hok.fresh hle, if_pos rfl, e2, nd, fun z => (hab l z).2 rfl, fun j t ht => ?_, fun b hb hb2 => ?_⟩⟩
  · obtain ⟨u1, u2, x, y, hx, hy, _, _, _, eH⟩ := pr j t ht
    exact ⟨I1.hok.fresh (hab t (List.mem_of_getElem? ht)).1, _, x, y, hx, hy, rfl, eH⟩
  · show (if b = l then _ else if b ∈ as then _ else _) = _
    rw [if_neg hb, if_neg hb2]
end ZL

/-! enumerate of a tuple -/
namespace EZ
open PySem PySem.Spec PyProof.Rows L2 PyProof
theorem meets_en (t : Addr) (o0 : Obj) (items : Array Value) :
    Meets (Builtin.«enumerate.__new__» ⟨[.type "enumerate", .ref t], []⟩) (fun _ R s => (s.heap.get? t = some o0 ∧ s.heap.IsTuple t items) ∧
      R (.ok (.ret (.ref (s.heap.push { cls := .type "tuple_iterator", data := .fields #[.ref t, .int 0 0] }).objs.size)))
        { s with heap := (s.heap.push { cls := .type "tuple_iterator", data := .fields #[.ref t, .int 0 0] }).push { cls := .type "enumerate", data := .fields #[.none, .bool false, .ref s.heap.objs.size, rawInt 0, .none, .none] } }) :=
  .of_wp fun prog w A R s h => by
    obtain ⟨hp, g, d, tk, os⟩ := s
    obtain ⟨⟨hl, hT⟩, h⟩ := h
    have hsub := sub_enumerate
    have hT' : Heap.IsTuple (Shared.heap ⟨hp, g, d, tk, os⟩) t items := hT
    wp_walk using AutoSeq1.wpAny_loadPart' hl
    refine wpAny_stack_any fun st => wpAny_pure ?_
    split
    · rename_i c _ _ _ _ _
      cases (c == Value.type "enumerate")
      · wp_walk using AutoSeq1.wpAny_loadPart' hl, wpAny_pyIter_tuple hT'
        exact ⟨_, rfl, h⟩
      · wp_walk using AutoSeq1.wpAny_loadPart' hl, wpAny_pyIter_tuple hT'
        exact ⟨_, rfl, h⟩
    · wp_walk using AutoSeq1.wpAny_loadPart' hl, wpAny_pyIter_tuple hT'
      exact ⟨_, rfl, h⟩
section
variable {prog : Program} {w : World} {A : Around} {E : Value → Shared → Prop} {s : Shared}
theorem call_en {t : Addr} {items : Array Value} {Q : Value → Shared → Prop} (hT : s.heap.IsTuple t items)
    (h : ∀ h', IsEnum h' (s.heap.objs.size + 1) s.heap.objs.size 0 .none → h'.IsTupleIter s.heap.objs.size t 0 → h'.objs.size = s.heap.objs.size + 2 →
      (∀ b o, s.heap.get? b = some o → h'.get? b = some o) → Q (.ref (s.heap.objs.size + 1)) { s with heap := h' }) :
    wpAny (model prog w) A (call (.type "enumerate") [.ref t]) Q E s := by
  obtain ⟨o0, ho0, _⟩ := id hT
  refine callType_new F.called_enumerate (by decide) (F.typeCall_enumerate_1 _) (F.newCall_enumerate_1 _) (fun obj => F.args_object_init_2 obj _) F.entry_enumerate_new
    (meets_en t o0 items) ⟨⟨ho0, hT⟩, ?_⟩
  have hz : (s.heap.push { cls := .type "tuple_iterator", data := .fields #[.ref t, .int 0 0] }).objs.size = s.heap.objs.size + 1 := Heap.size_push ..
  show _ ∧ _
  rw [hz]
  have he : IsEnum ((s.heap.push { cls := .type "tuple_iterator", data := .fields #[.ref t, .int 0 0] }).push
      { cls := .type "enumerate", data := .fields #[.none, .bool false, .ref s.heap.objs.size, rawInt 0, .none, .none] }) (s.heap.objs.size + 1) s.heap.objs.size 0 .none := by
    have := Heap.get?_push_size (s.heap.push { cls := .type "tuple_iterator", data := .fields #[.ref t, .int 0 0] })
      (o := { cls := .type "enumerate", data := .fields #[.none, .bool false, .ref s.heap.objs.size, rawInt 0, .none, .none] }) rfl
    rw [hz] at this; exact this
  refine ⟨⟨_, he, rfl⟩, h _ he ⟨_, Heap.get?_push_of_some _ (Heap.get?_push_size _ rfl), rfl, rfl⟩ (by rw [Heap.size_push, hz]) fun b o x => Heap.get?_push_of_some _ (Heap.get?_push_of_some _ x)⟩
end
/-- the tuple at a as it stands at each turn, each item in a new pair -/
def IteT (K : PySem.W.Frag) (a : Addr) : It :=
  ⟨fun i H => ∃ (xs : List V) (x : V), SqT K H a xs ∧ xs[i]? = some x, fun i H v H' => ∃ T x, v = .ref T ∧ H T = none ∧ H' = upd H T (.tup [.int (i : Nat), x]) ∧ ∀ xs, SqT K H a xs → xs[i]? = some x, fun i H => ∃ xs : List V, SqT K H a xs ∧ xs.length ≤ i⟩
theorem turn_enT {P : Program} {w : World} {K : PySem.W.Frag} {elts : List Expr} {kk : Nat} {tpos : Pos} (a e it : Addr) (hae : a ≠ e) (hai : a ≠ it) :
    Turn P w K (.Tuple elts kk tpos) (IteT K a) [e, it] e (fun i h => (∃ old, IsEnum h e it ((i : Nat) : Int) old) ∧ h.IsTupleIter it a i ∧ e ≠ it) where
  mem := by simp
  obj := fun i h st b hb => by
    obtain ⟨⟨old, he⟩, ⟨o, ho, hc, hd⟩, _⟩ := st
    have e' : b = e ∨ b = it := by simpa using hb
    rcases e' with z | z
    · rw [z]; exact ⟨_, he, fun v q => nomatch q⟩
    · rw [z]; exact ⟨o, ho, fun v q => by rw [hd] at q; cases q⟩
  keep := fun i h h' st k => let ⟨⟨old, he⟩, hi, hne⟩ := st; ⟨⟨old, k e (by simp) _ he⟩, hi.at fun o q => k it (by simp) o q, hne⟩
  item := by
    intro X hP hw hK hc i pins s σ H E I hf st hg
    subst hP hw hK
    obtain ⟨⟨old, he⟩, hit, hne⟩ := st
    obtain ⟨xs, x, hq, hx⟩ := hg
    obtain ⟨its, rv, p, hz⟩ := I.tuple hq
    obtain ⟨u, hu, ru⟩ := rv.get hx
    have hel : e < s.heap.objs.size := Heap.lt_size he
    have hil : it < s.heap.objs.size := by obtain ⟨_, q, _⟩ := hit; exact Heap.lt_size q
    have hu' : its.toArray[i]? = some u := by simpa using hu
    have hlt : i < its.toArray.size := (Array.getElem?_eq_some_iff.mp hu').1
    have D := Draws.tuple (prog := X.prog) (w := X.w) (A := X.A.in1) (I.ok.hd hc) it a hai its.toArray
    refine wpAny_pyNext_enum_itemD D he ⟨hit, (show s.heap.IsTuple a its.toArray from p)⟩ hlt hne (fun z => by simp at z; rcases z with z | z; exact hne z; exact hae z.symm) fun x' h' tk hPx ho hst' hT hsz hk => ?_
    rw [hu'] at hPx
    cases hPx
    obtain ⟨hit', _⟩ := hst'
    refine ⟨_, rfl, wpAny_letOwnedTupleGo_enum (s := { s with heap := h', toks := tk + 1 }) ho fun h'' he' sb => ?_⟩
    have hT2 : h''.get? s.heap.objs.size = some { cls := .type "tuple", data := .seq #[.int i tk, u] } := (sb.2 _ (Nat.ne_of_gt hel)).trans hT
    have new : ObjOk X.prog X.w (upd H s.heap.objs.size (.tup [.int (i : Nat), x])) h'' s.heap.objs.size (.tup [.int (i : Nat), x]) :=
      ⟨by show 2 ≤ sizeLine; decide, [.int i tk, u], .cons ⟨_, rfl⟩ (.cons ru .nil), ⟨_, hT2, rfl, _, rfl⟩⟩
    have I1 : Inv X pins σ (upd H s.heap.objs.size (.tup [.int (i : Nat), x])) { s with heap := h'', toks := tk + 1 } :=
      I.turnedNew (ch := [e, it]) (fun b ob hb q => (sb.2 b (fun z => hb (by simp [z]))).trans (hk b ob (fun z => hb (by simp [z])) (fun z => hb (by simp [z])) q)) hf (Nat.le_refl _) new
    refine ⟨.ref s.heap.objs.size, _, I1, rfl, ⟨_, x, rfl, I.hok.fresh (Nat.le_refl _), rfl, fun ys hy => by rw [I.tuple_inj hy hq]; exact hx⟩, ⟨⟨u, ?_⟩, hit'.at fun o q => (sb.2 it (Ne.symm hne)).trans q, hne⟩, fun b hb => ?_⟩
    · have e1 : ((i + 1 : Nat) : Int) = (i : Int) + 1 := by omega
      rw [e1]; exact he'
    · have hb' : b < s.heap.objs.size := by
        have e' : b = e ∨ b = it := by simpa using hb
        rcases e' with z | z
        · rw [z]; exact hel
        · rw [z]; exact hil
      rw [upd_ne (Nat.ne_of_lt hb')]
      exact (hf b hb).1
  done := by
    intro X hP hw hK hc i pins s σ H E I hf st hg
    subst hP hw hK
    obtain ⟨⟨old, he⟩, hit, hne⟩ := st
    obtain ⟨xs, hq, hx⟩ := hg
    obtain ⟨its, rv, p, hz⟩ := I.tuple hq
    obtain ⟨f0, f1, f2, f3, f4, f5⟩ := hf it (by simp)
    have hl := rv.length
    have hT : s.TypeIs (.ref e) "enumerate" := ⟨_, he, rfl⟩
    unfold pyNext
    refine wpAny_bind (wpAny_attempt (wpAny_callSpecial?_slot (name := Str.ofString "__next__") hT F.slot_enumerate_next
      (wpAny_call_entry F.slot_enumerate_next hT F.entry_enumerate_next ?_ (F.args_enumerate_next_1 _))))
    show wpAny _ _ (field (.ref e) 2 >>= _) _ _ _
    refine wpAny_bind (wpAny_field he rfl (x := .ref it) rfl ?_)
    refine wpAny_bind (RZ.nextOf_tuple_end (I.ok.hd hc) hit (show s.heap.IsTuple a its.toArray from p) (by simp; omega) fun h' x he' hx' => ?_)
    obtain ⟨o, ho, hcl⟩ := hx'
    refine wpAny_bind (wpAny_isInstance (T := "StopIteration") (b := true) ⟨o, ho, hcl⟩ isSubtype_stop ?_)
    exact wpAny_pure ⟨rfl, I.turned (t' := s.toks) (fun b o hb q => he' b o hb q) f0 f1 f3 f4 f5⟩
  self := fun A i s Q E st h => let ⟨⟨_, he⟩, _⟩ := st; wpAny_pyIter_enum he h
def iEnumA (K : PySem.W.Frag) (ta : TA) : TI := fun σ H R => ta σ H fun vs H1 => ∃ a xs, vs = [.ref a] ∧ ((SqL K H1 a xs ∧ R (Ite K a) H1) ∨ (SqT K H1 a xs ∧ R (IteT K a) H1))
theorem pi_enA {X : Cx} {e : Expr} {ta : TA} {p pos tpos : Pos} {elts : List Expr} {kk : Nat} (hg : Gl X "enumerate") (hm : X.mg "enumerate" = none) (ha : PA X [e] ta) (hs : starEach [e] X.env = [(false, eval e X.env)] := by rfl) :
    PI X (.Tuple elts kk tpos) (.Call (.Name "enumerate" p) [e] [] pos) (iEnumA X.K ta) := by
  refine ⟨fun pins s σ H R I h => ?_⟩
  refine Call_ (ld_blt I hg hm boot_enumerate (PyProof.Rows.callWith_type1 (thn (ha.run pos pins s σ H _ I h) fun us s1 ⟨vs, H1, I1, r1, q1⟩ => ?_) hs rfl))
  obtain ⟨a, xs, ex, q1⟩ := q1
  subst ex
  cases r1 with
  | cons r rr =>
    cases rr
    cases r
    have fresh : ∀ b ∈ [s1.heap.objs.size + 1, s1.heap.objs.size], FpOk X pins H1 b := fun b hb => by
      have e' : b = s1.heap.objs.size + 1 ∨ b = s1.heap.objs.size := by simpa using hb
      have hle : s1.heap.objs.size ≤ b := by
        rcases e' with z | z
        · rw [z]; exact Nat.le_add_right _ _
        · rw [z]; exact Nat.le_refl _
      exact I1.fpOk hle (I1.hok.fresh hle)
    rcases q1 with ⟨hq, q⟩ | ⟨hq, q⟩
    · obtain ⟨its, rv, p', hz⟩ := I1.list hq
      refine call_enumerate_list p'.isList fun h' he hit hsz hk => wpAny_pyIter_enum he ?_
      have I2 : Inv X pins σ H1 { s1 with heap := h' } := I1.kept (t' := s1.toks) hk
      exact ⟨s1.heap.objs.size + 1, [s1.heap.objs.size + 1, s1.heap.objs.size], _, _, H1, rfl, I2, turn_enum a (s1.heap.objs.size + 1) s1.heap.objs.size, ⟨⟨.none, he⟩, hit, Nat.succ_ne_self _⟩, fresh, q⟩
    · obtain ⟨its, rv, p', hz⟩ := I1.tuple hq
      have la : a < s1.heap.objs.size := by obtain ⟨_, e, _⟩ := p'; exact Heap.lt_size e
      refine call_en (show s1.heap.IsTuple a its.toArray from p') fun h' he hit hsz hk => wpAny_pyIter_enum he ?_
      have I2 : Inv X pins σ H1 { s1 with heap := h' } := I1.kept (t' := s1.toks) hk
      exact ⟨s1.heap.objs.size + 1, [s1.heap.objs.size + 1, s1.heap.objs.size], _, _, H1, rfl, I2, turn_enT a (s1.heap.objs.size + 1) s1.heap.objs.size (Nat.ne_of_lt (Nat.lt_succ_of_lt la)) (Nat.ne_of_lt la), ⟨⟨.none, he⟩, hit, Nat.succ_ne_self _⟩, fresh, q⟩
end EZ

namespace Fx
open PySem PySem.Spec PyProof.Rows L2

/-! ## Fx: functional readings. Values are plain data; a list or dict that a def builds is owned by one slot, all else never changes. -/
abbrev D := PyData
abbrev St := L2.St
/-- a key as data -/
def keyD : Key → D
  | .inl i => .int i
  | .inr x => .str x

/-- a tuple without a dict of its own: its object is known -/
def Plain (K : PySem.W.Frag) (S : Hp) (a : Addr) : Prop := (∃ o u, S a = some (.frz o u) ∧ o.dict = none) ∨ ∃ o, K.lookup a = some o ∧ o.dict = none
theorem Plain.mono {K : PySem.W.Frag} {S S' : Hp} {a : Addr} (h : Plain K S a) (s : Same S S') : Plain K S' a := by
  rcases h with ⟨o, u, e, d⟩ | h
  · exact .inl ⟨o, u, s _ _ e, d⟩
  · exact .inr h
mutual
/-- v stands for the data d, by what never changes (S) -/
inductive Rp (K : PySem.W.Frag) (S : Hp) : V → D → Prop
  | non : Rp K S .non .none
  | bl (b : Bool) : Rp K S (.bl b) (.bool b)
  | int (i : Int) : Rp K S (.int i) (.int i)
  | str (x : Str) : Rp K S (.str x) (.str x)
  | lst {a : Addr} {xs : List V} {ds : List D} : S a = some (.lst xs) → Rps K S xs ds → Rp K S (.ref a) (.list ds)
  /-- the script -/
  | scr {a : Addr} {xs : List V} {ds : List D} : SqL K S a xs → Rps K S xs ds → Rp K S (.ref a) (.dict [(.none, .list ds)])
  | tup {a : Addr} {xs : List V} {ds : List D} : SqT K S a xs → Plain K S a → Rps K S xs ds → Rp K S (.ref a) (.tuple ds)
  | dct {a : Addr} {kvs : List (Key × V)} {ds : List (D × D)} : S a = some (.dK kvs) → Rpd K S kvs ds → Rp K S (.ref a) (.dict ds)
inductive Rps (K : PySem.W.Frag) (S : Hp) : List V → List D → Prop
  | nil : Rps K S [] []
  | cons {v : V} {vs : List V} {d : D} {ds : List D} : Rp K S v d → Rps K S vs ds → Rps K S (v :: vs) (d :: ds)
inductive Rpd (K : PySem.W.Frag) (S : Hp) : List (Key × V) → List (D × D) → Prop
  | nil : Rpd K S [] []
  | cons {k : Key} {v : V} {vs : List (Key × V)} {d : D} {ds : List (D × D)} : Rp K S v d → Rpd K S vs ds → Rpd K S ((k, v) :: vs) ((keyD k, d) :: ds)
end

theorem Same.seqT {K : PySem.W.Frag} {H H' : Hp} {a : Addr} {xs : List V} (e : Same H H') (h : SqT K H a xs) : SqT K H' a xs := by
  rcases h with (h | ⟨o, h⟩) | h
  · exact .inl (.inl (e _ _ h))
  · exact .inl (.inr ⟨o, e _ _ h⟩)
  · exact .inr h

section
variable {K : PySem.W.Frag} {S S' : Hp}
mutual
theorem Rp.mono (h : Same S S') : ∀ {v : V} {d : D}, Rp K S v d → Rp K S' v d
  | _, _, .non => .non
  | _, _, .bl b => .bl b
  | _, _, .int i => .int i
  | _, _, .str x => .str x
  | _, _, .lst q r => .lst (h _ _ q) (Rps.mono h r)
  | _, _, .scr q r => .scr (L2.Same.seq h q) (Rps.mono h r)
  | _, _, .tup q p r => .tup (Same.seqT h q) (p.mono h) (Rps.mono h r)
  | _, _, .dct q r => .dct (h _ _ q) (Rpd.mono h r)
theorem Rps.mono (h : Same S S') : ∀ {vs : List V} {ds : List D}, Rps K S vs ds → Rps K S' vs ds
  | _, _, .nil => .nil
  | _, _, .cons r t => .cons (Rp.mono h r) (Rps.mono h t)
theorem Rpd.mono (h : Same S S') : ∀ {vs : List (Key × V)} {ds : List (D × D)}, Rpd K S vs ds → Rpd K S' vs ds
  | _, _, .nil => .nil
  | _, _, .cons r t => .cons (Rp.mono h r) (Rpd.mono h t)
end
theorem Rps.length : ∀ {vs : List V} {ds : List D}, Rps K S vs ds → vs.length = ds.length
  | _, _, .nil => rfl
  | _, _, .cons _ t => by rw [List.length_cons, List.length_cons, Rps.length t]
theorem Rps.append : ∀ {vs ws : List V} {ds es : List D}, Rps K S vs ds → Rps K S ws es → Rps K S (vs ++ ws) (ds ++ es)
  | _, _, _, _, .nil, s => s
  | _, _, _, _, .cons r t, s => .cons r (Rps.append t s)
theorem Rps.get : ∀ {vs : List V} {ds : List D} {i : Nat} {d : D}, Rps K S vs ds → ds[i]? = some d → ∃ v, vs[i]? = some v ∧ Rp K S v d
  | _, _, _, _, .nil, e => by simp at e
  | _, _, 0, _, .cons r _, e => by simp at e; subst e; exact ⟨_, rfl, r⟩
  | _, _, i + 1, _, .cons _ t, e => by
    obtain ⟨v, h1, h2⟩ := Rps.get (i := i) t (by simpa using e)
    exact ⟨v, by simpa using h1, h2⟩
theorem Rps.get' : ∀ {vs : List V} {ds : List D} {i : Nat} {v : V}, Rps K S vs ds → vs[i]? = some v → ∃ d, ds[i]? = some d ∧ Rp K S v d
  | _, _, _, _, .nil, e => by simp at e
  | _, _, 0, _, .cons r _, e => by simp at e; subst e; exact ⟨_, rfl, r⟩
  | _, _, i + 1, _, .cons _ t, e => by
    obtain ⟨v, h1, h2⟩ := Rps.get' (i := i) t (by simpa using e)
    exact ⟨v, by simpa using h1, h2⟩
theorem Rps.take : ∀ {vs : List V} {ds : List D} (n : Nat), Rps K S vs ds → Rps K S (vs.take n) (ds.take n)
  | _, _, 0, _ => .nil
  | _, _, _ + 1, .nil => .nil
  | _, _, n + 1, .cons r t => .cons r (Rps.take n t)
theorem Rps.drop : ∀ {vs : List V} {ds : List D} (n : Nat), Rps K S vs ds → Rps K S (vs.drop n) (ds.drop n)
  | _, _, 0, r => r
  | _, _, _ + 1, .nil => .nil
  | _, _, n + 1, .cons _ t => Rps.drop n t
theorem Rps.set {x : V} {d : D} (r : Rp K S x d) : ∀ {vs : List V} {ds : List D} (i : Nat), Rps K S vs ds → Rps K S (vs.set i x) (ds.set i d)
  | _, _, _, .nil => .nil
  | _, _, 0, .cons _ t => .cons r t
  | _, _, i + 1, .cons q t => .cons q (Rps.set r i t)
theorem Rps.eraseIdx : ∀ {vs : List V} {ds : List D} (i : Nat), Rps K S vs ds → Rps K S (vs.eraseIdx i) (ds.eraseIdx i)
  | _, _, _, .nil => .nil
  | _, _, 0, .cons _ t => t
  | _, _, i + 1, .cons q t => .cons q (Rps.eraseIdx i t)
theorem Rps.reverse {vs : List V} {ds : List D} (h : Rps K S vs ds) : Rps K S vs.reverse ds.reverse := by
  induction vs generalizing ds with
  | nil => cases h; exact .nil
  | cons v vs ih =>
    cases h with
    | cons r t => rw [List.reverse_cons, List.reverse_cons]; exact Rps.append (ih t) (.cons r .nil)
theorem Rps.dropLast {vs : List V} {ds : List D} (h : Rps K S vs ds) : Rps K S vs.dropLast ds.dropLast := by
  rw [List.dropLast_eq_take, List.dropLast_eq_take, h.length]
  exact h.take _
theorem Rps.ints : ∀ {vs : List V} {ns : List Int}, Rps K S vs (ns.map PyData.int) → vs = ns.map V.int
  | [], [], _ => rfl
  | [], _ :: _, h => by cases h
  | _ :: _, [], h => by cases h
  | v :: vs, n :: ns, h => by
    cases h with
    | cons r t =>
      cases r
      rw [List.map_cons, Rps.ints t]
theorem Rps.of_ints : ∀ (ns : List Int), Rps K S (ns.map V.int) (ns.map PyData.int)
  | [] => .nil
  | n :: ns => .cons (.int n) (Rps.of_ints ns)

/-! ### slots -/
inductive Sl where
  | no
  | dat (d : D)
  | own (n : Nat) (d : D)
abbrev Fs := List Sl
/-- the owned object at p -/
def OwnAt (K : PySem.W.Frag) (S H : Hp) (p : Addr) : D → Prop
  | .list ds => ∃ xs, H p = some (.lst xs) ∧ Rps K S xs ds
  | .dict ds => ∃ kvs, H p = some (.dK kvs) ∧ Rpd K S kvs ds
  | _ => False
theorem OwnAt.live {K : PySem.W.Frag} {S H : Hp} {p : Addr} {d : D} (h : OwnAt K S H p d) : ∃ o, H p = some o := by
  cases d with
  | list ds => obtain ⟨xs, e, _⟩ := h; exact ⟨_, e⟩
  | dict ds => obtain ⟨xs, e, _⟩ := h; exact ⟨_, e⟩
  | _ => exact False.elim h
theorem OwnAt.mono {K : PySem.W.Frag} {S H S' H' : Hp} {p : Addr} {d : D} (h : OwnAt K S H p d) (hs : Same S S') (k : ∀ o, H p = some o → H' p = some o) : OwnAt K S' H' p d := by
  cases d with
  | list ds => obtain ⟨xs, e, r⟩ := h; exact ⟨xs, k _ e, r.mono hs⟩
  | dict ds => obtain ⟨xs, e, r⟩ := h; exact ⟨xs, k _ e, r.mono hs⟩
  | _ => exact False.elim h

/-- the entry of a def: the owned arguments' addresses, the heap, what never changes -/
structure Inf where
  B : Nat → Option Addr
  H0 : Hp
  S0 : Hp
def Inf.bw (J : Inf) (a : Addr) : Prop := ∃ j, J.B j = some a
/-- whose: a parameter's object, or one that was made here -/
def Inf.mine (J : Inf) (p : Addr) : Nat → Prop
  | 0 => J.H0 p = none
  | j + 1 => J.B j = some p

structure Rel (K : PySem.W.Frag) (J : Inf) (σ : St) (H S : Hp) (fs : Fs) : Prop where
  sub : Same S H
  len : σ.length = fs.length
  dat : ∀ (i : Nat) (d : D), fs[i]? = some (.dat d) → ∃ v, σ[i]? = some (some v) ∧ Rp K S v d
  own : ∀ (i n : Nat) (d : D), fs[i]? = some (.own n d) → ∃ p, σ[i]? = some (some (.ref p)) ∧ OwnAt K S H p d ∧ S p = none ∧ J.mine p n
  sep : ∀ (i j n m : Nat) (d e : D) (p : Addr), fs[i]? = some (.own n d) → fs[j]? = some (.own m e) → σ[i]? = some (some (.ref p)) → σ[j]? = some (some (.ref p)) → i = j
  keep0 : ∀ a o, J.H0 a = some o → ¬ J.bw a → H a = some o
  grow0 : Same J.S0 S
  new0 : ∀ a, S a ≠ none → J.S0 a ≠ none ∨ J.H0 a = none
  live0 : ∀ a, J.H0 a ≠ none → H a ≠ none
  bwl : ∀ a, J.bw a → J.H0 a ≠ none

def Wn (σ : St) (fs : Fs) (a : Addr) : Prop := ∃ (i n : Nat) (d : D), fs[i]? = some (.own n d) ∧ σ[i]? = some (some (.ref a))
def Wz (σ : St) (fs : Fs) (a : Addr) : Prop := ∃ (i : Nat) (d : D), fs[i]? = some (.own 0 d) ∧ σ[i]? = some (some (.ref a))

structure Stp (W Z : Addr → Prop) (H S H' S' : Hp) : Prop where
  keep : ∀ a o, H a = some o → ¬ W a → H' a = some o
  grow : Same S S'
  new : ∀ a, S' a ≠ none → S a ≠ none ∨ H a = none ∨ Z a
  live : ∀ a, H a ≠ none → H' a ≠ none
theorem Stp.refl {W Z : Addr → Prop} {H S : Hp} : Stp W Z H S H S := ⟨fun _ _ h _ => h, Same.refl _, fun _ h => .inl h, fun _ h => h⟩
theorem Stp.trans {W Z W1 Z1 : Addr → Prop} {H S H1 S1 H2 S2 : Hp} (a : Stp W Z H S H1 S1) (b : Stp W1 Z1 H1 S1 H2 S2) (hw : ∀ x, W1 x → W x ∨ H x = none) (hz : ∀ x, Z1 x → Z x ∨ H x = none) : Stp W Z H S H2 S2 where
  keep := fun x o e nw => b.keep x o (a.keep x o e nw) fun z => (hw x z).elim nw fun q => by rw [q] at e; cases e
  grow := a.grow.trans b.grow
  new := fun x h => by
    rcases b.new x h with q | q | q
    · exact a.new x q
    · refine .inr (.inl ?_)
      cases e : H x with
      | none => rfl
      | some o => exact absurd q (a.live x (by rw [e]; simp))
    · rcases hz x q with q | q
      · exact .inr (.inr q)
      · exact .inr (.inl q)
  live := fun x h => b.live x (a.live x h)
theorem Stp.weak {W Z W' Z' : Addr → Prop} {H S H' S' : Hp} (a : Stp W Z H S H' S') (hw : ∀ x, W x → W' x) (hz : ∀ x, Z x → Z' x) : Stp W' Z' H S H' S' :=
  ⟨fun x o e n => a.keep x o e fun q => n (hw x q), a.grow, fun x h => (a.new x h).imp id fun q => q.imp id (hz x), a.live⟩
theorem Stp.none {W Z : Addr → Prop} {H S H' S' : Hp} (a : Stp W Z H S H' S') {x : Addr} (h : H' x = Option.none) : H x = Option.none := by
  cases e : H x with
  | none => rfl
  | some o => exact absurd h (a.live x (by rw [e]; simp))

/-- slots only lose what they own -/
def Shr (fs fs' : Fs) : Prop := ∀ (i n : Nat) (d' : D), fs'[i]? = some (.own n d') → ∃ d, fs[i]? = some (.own n d)
theorem Shr.refl (fs : Fs) : Shr fs fs := fun _ _ d h => ⟨d, h⟩
theorem Shr.trans {a b c : Fs} (x : Shr a b) (y : Shr b c) : Shr a c := fun i n d h => let ⟨_, h1⟩ := y i n d h; x i n _ h1
theorem Shr.wn {σ : St} {fs fs' : Fs} (x : Shr fs fs') {a : Addr} (h : Wn σ fs' a) : Wn σ fs a := by
  obtain ⟨i, n, d, h1, h2⟩ := h
  obtain ⟨d', h3⟩ := x i n d h1
  exact ⟨i, n, d', h3, h2⟩
theorem Shr.wz {σ : St} {fs fs' : Fs} (x : Shr fs fs') {a : Addr} (h : Wz σ fs' a) : Wz σ fs a := by
  obtain ⟨i, d, h1, h2⟩ := h
  obtain ⟨d', h3⟩ := x i 0 d h1
  exact ⟨i, d', h3, h2⟩
theorem Shr.set {fs : Fs} {i : Nat} {s : Sl} (h : ∀ n d', s = .own n d' → ∃ d, fs[i]? = some (.own n d)) : Shr fs (fs.set i s) := fun j n d' e => by
  by_cases hj : i = j
  · subst hj
    by_cases hl : i < fs.length
    · rw [List.getElem?_set_self hl] at e
      exact h n d' (Option.some.inj e)
    · rw [List.getElem?_eq_none (by simpa using hl)] at e; cases e
  · rw [List.getElem?_set_ne hj] at e
    exact ⟨d', e⟩
end

section
variable {K : PySem.W.Frag} {J : Inf} {σ : St} {H S H' S' : Hp} {fs fs' : Fs}
/-- the entry's facts go on -/
theorem Rel.step (R : Rel K J σ H S fs) (st : Stp (Wn σ fs) (Wz σ fs) H S H' S') (sub : Same S' H') (len : σ.length = fs'.length)
    (dat : ∀ (i : Nat) (d : D), fs'[i]? = some (.dat d) → ∃ v, σ[i]? = some (some v) ∧ Rp K S' v d)
    (own : ∀ (i n : Nat) (d : D), fs'[i]? = some (.own n d) → ∃ p, σ[i]? = some (some (.ref p)) ∧ OwnAt K S' H' p d ∧ S' p = none) (sh : Shr fs fs') : Rel K J σ H' S' fs' where
  sub := sub
  len := len
  dat := dat
  own := fun i n d e => by
    obtain ⟨p, h1, h2, h3⟩ := own i n d e
    obtain ⟨d0, e0⟩ := sh i n d e
    obtain ⟨p', q1, _, _, q4⟩ := R.own i n d0 e0
    rw [h1] at q1
    cases q1
    exact ⟨p, h1, h2, h3, q4⟩
  sep := fun i j n m d e p h1 h2 h3 h4 => by
    obtain ⟨d0, e0⟩ := sh i n d h1
    obtain ⟨d1, e1⟩ := sh j m e h2
    exact R.sep i j n m d0 d1 p e0 e1 h3 h4
  keep0 := fun a o e nb => st.keep a o (R.keep0 a o e nb) fun ⟨i, n, d, h1, h2⟩ => by
    obtain ⟨p, q1, _, _, q4⟩ := R.own i n d h1
    rw [h2] at q1
    cases q1
    cases n with
    | zero => rw [show J.H0 a = none from q4] at e; cases e
    | succ j => exact nb ⟨j, q4⟩
  grow0 := R.grow0.trans st.grow
  new0 := fun a h => by
    rcases st.new a h with q | q | q
    · exact R.new0 a q
    · refine .inr ?_
      cases e : J.H0 a with
      | none => rfl
      | some o => exact absurd q (R.live0 a (by rw [e]; simp))
    · obtain ⟨i, d, h1, h2⟩ := q
      obtain ⟨p, q1, _, _, q4⟩ := R.own i 0 d h1
      rw [h2] at q1
      cases q1
      exact .inr q4
  live0 := fun a h => st.live a (R.live0 a h)
  bwl := R.bwl
theorem Rel.wn_live (R : Rel K J σ H S fs) {a : Addr} (h : Wn σ fs a) : ∃ o, H a = some o := by
  obtain ⟨i, n, d, h1, h2⟩ := h
  obtain ⟨p, q1, q2, _⟩ := R.own i n d h1
  rw [h2] at q1
  cases q1
  exact q2.live
theorem Rel.wn_out (R : Rel K J σ H S fs) {a : Addr} (h : Wn σ fs a) : S a = none := by
  obtain ⟨i, n, d, h1, h2⟩ := h
  obtain ⟨p, q1, _, q3, _⟩ := R.own i n d h1
  rw [h2] at q1
  cases q1
  exact q3
/-- the same slots, a heap that only grew -/
theorem Rel.grown (R : Rel K J σ H S fs) (st : Stp (fun _ => False) (fun _ => False) H S H' S') (sub : Same S' H') : Rel K J σ H' S' fs :=
  R.step (st.weak (fun _ h => h.elim) fun _ h => h.elim) sub R.len (fun i d e => let ⟨v, h1, h2⟩ := R.dat i d e; ⟨v, h1, h2.mono st.grow⟩)
    (fun i n d e => by
      obtain ⟨p, h1, h2, h3, _⟩ := R.own i n d e
      refine ⟨p, h1, h2.mono st.grow fun o q => st.keep p o q fun z => z.elim, ?_⟩
      cases q : S' p with
      | none => rfl
      | some o =>
        rcases st.new p (by rw [q]; simp) with z | z | z
        · exact absurd h3 z
        · obtain ⟨o', z'⟩ := h2.live
          rw [z] at z'; cases z'
        · exact z.elim) (Shr.refl _)
/-- a new object that is not S's -/
theorem stp_newH {p : Addr} {o : HO} (hp : H p = none) : Stp (fun _ => False) (fun _ => False) H S (upd H p o) S where
  keep := fun a u e _ => by rw [upd_ne (ne_of_none e hp)]; exact e
  grow := Same.refl _
  new := fun _ h => .inl h
  live := fun a h => by
    by_cases e : a = p
    · subst e; rw [upd_same]; simp
    · rw [upd_ne e]; exact h
theorem same_newH {p : Addr} {o : HO} (hp : H p = none) (sub : Same S H) : Same S (upd H p o) := fun a u e => by
  rw [upd_ne (ne_of_none (sub _ _ e) hp)]; exact sub _ _ e
/-- a new object that S has -/
theorem stp_newS {p : Addr} {o : HO} (hp : H p = none) (sub : Same S H) : Stp (fun _ => False) (fun _ => False) H S (upd H p o) (upd S p o) where
  keep := fun a u e _ => by rw [upd_ne (ne_of_none e hp)]; exact e
  grow := fun a u e => by rw [upd_ne (ne_of_none (sub _ _ e) hp)]; exact e
  new := fun a h => by
    by_cases e : a = p
    · subst e; exact .inr (.inl hp)
    · rw [upd_ne e] at h; exact .inl h
  live := fun a h => by
    by_cases e : a = p
    · subst e; rw [upd_same]; simp
    · rw [upd_ne e]; exact h
theorem same_newS {p : Addr} {o : HO} (hp : H p = none) (sub : Same S H) : Same (upd S p o) (upd H p o) := fun a u e => by
  by_cases q : a = p
  · subst q; rw [upd_same] at e ⊢; exact e
  · rw [upd_ne q] at e ⊢; exact sub _ _ e

/-! ### what an expression gives -/
inductive Rv where
  | val (d : D)
  | slot (i : Nat)
  | fresh (d : D)
/-- Hs: the heap at the expression's start -/
def RvR (K : PySem.W.Frag) (σ : St) (fs : Fs) (Hs H S : Hp) (v : V) : Rv → Prop
  | .val d => Rp K S v d
  | .slot i => σ[i]? = some (some v)
  | .fresh d => ∃ p, v = .ref p ∧ OwnAt K S H p d ∧ S p = none ∧ Hs p = none ∧ ¬ Wn σ fs p
def Sl.rd : Sl → Option D
  | .no => none
  | .dat d => some d
  | .own _ d => some d
def Rv.rd (fs : Fs) : Rv → Option D
  | .val d => some d
  | .slot i => (fs[i]?).bind Sl.rd
  | .fresh d => some d
/-- v may be read as d just now -/
def RpB (K : PySem.W.Frag) (S H : Hp) (v : V) : D → Prop
  | .list ds => ∃ a xs, v = .ref a ∧ H a = some (.lst xs) ∧ Rps K S xs ds
  | .dict ds => (∃ a kvs, v = .ref a ∧ H a = some (.dK kvs) ∧ Rpd K S kvs ds) ∨ ∃ a xs es, v = .ref a ∧ ds = [(.none, .list es)] ∧ SqL K H a xs ∧ Rps K S xs es
  | d => Rp K S v d
theorem Rp.b (sub : Same S H) {v : V} {d : D} (h : Rp K S v d) : RpB K S H v d := by
  cases h with
  | lst q r => exact ⟨_, _, rfl, sub _ _ q, r⟩
  | dct q r => exact .inl ⟨_, _, rfl, sub _ _ q, r⟩
  | scr q r => exact .inr ⟨_, _, _, rfl, rfl, L2.Same.seq sub q, r⟩
  | non => exact .non
  | bl b => exact .bl b
  | int i => exact .int i
  | str x => exact .str x
  | tup q p r => exact .tup q p r
theorem OwnAt.b {p : Addr} {d : D} (h : OwnAt K S H p d) : RpB K S H (.ref p) d := by
  cases d with
  | list ds => obtain ⟨xs, e, r⟩ := h; exact ⟨p, xs, rfl, e, r⟩
  | dict ds => obtain ⟨xs, e, r⟩ := h; exact .inl ⟨p, xs, rfl, e, r⟩
  | _ => exact False.elim h
theorem RvR.rd (R : Rel K J σ H S fs) {Hs : Hp} {v : V} {rv : Rv} {d : D} (h : RvR K σ fs Hs H S v rv) (e : rv.rd fs = some d) : RpB K S H v d := by
  cases rv with
  | val d' => cases e; exact Rp.b R.sub h
  | slot i =>
    have h' : σ[i]? = some (some v) := h
    cases q : fs[i]? with
    | none => rw [Rv.rd, q] at e; cases e
    | some s =>
      rw [Rv.rd, q] at e
      cases s with
      | no => cases e
      | dat d' =>
        cases e
        obtain ⟨v', h1, h2⟩ := R.dat i _ q
        rw [h'] at h1; cases h1
        exact Rp.b R.sub h2
      | own n d' =>
        cases e
        obtain ⟨p, h1, h2, _⟩ := R.own i n _ q
        rw [h'] at h1; cases h1
        exact h2.b
  | fresh d' =>
    cases e
    obtain ⟨p, rfl, h2, _⟩ := h
    exact h2.b
/-- what was read stands while more is evaluated -/
theorem RvR.later {Hs H1 S1 : Hp} {fs1 : Fs} {v : V} {rv : Rv} (h : RvR K σ fs Hs H S v rv) (st : Stp (Wn σ fs) (Wz σ fs) H S H1 S1) (sh : Shr fs fs1) : RvR K σ fs1 Hs H1 S1 v rv := by
  cases rv with
  | val d => exact Rp.mono st.grow h
  | slot i => exact h
  | fresh d =>
    obtain ⟨p, e, h1, h2, h3, h4⟩ := h
    refine ⟨p, e, h1.mono st.grow fun o q => st.keep p o q h4, ?_, h3, fun z => h4 (sh.wn z)⟩
    cases q : S1 p with
    | none => rfl
    | some o =>
      rcases st.new p (by rw [q]; simp) with z | z | z
      · exact absurd h2 z
      · obtain ⟨o', z'⟩ := h1.live
        rw [z] at z'; cases z'
      · obtain ⟨i, d', z1, z2⟩ := z
        exact absurd ⟨i, 0, d', z1, z2⟩ h4
/-- the start may be taken earlier -/
theorem RvR.early {Hs Hs' : Hp} {v : V} {rv : Rv} (h : RvR K σ fs Hs H S v rv) (l : ∀ a, Hs a = none → Hs' a = none) : RvR K σ fs Hs' H S v rv := by
  cases rv with
  | val d => exact h
  | slot i => exact h
  | fresh d =>
    obtain ⟨p, e, h1, h2, h3, h4⟩ := h
    exact ⟨p, e, h1, h2, l p h3, h4⟩

/-! ### freezing -/
/-- the value for good: an owned object is never changed any more -/
def Rv.fz (fs : Fs) : Rv → Option (D × Fs)
  | .val d => some (d, fs)
  | .fresh d => some (d, fs)
  | .slot i => match fs[i]? with
    | some (.dat d) => some (d, fs)
    | some (.own 0 d) => some (d, fs.set i (.dat d))
    | _ => none
theorem own_rp {p : Addr} {d : D} {o : HO} (h : OwnAt K S H p d) (e : H p = some o) (hn : S p = none) : Rp K (upd S p o) (.ref p) d := by
  have g : Same S (upd S p o) := fun a u q => by rw [upd_ne (ne_of_none q hn)]; exact q
  cases d with
  | list ds =>
    obtain ⟨xs, e', r⟩ := h
    rw [e] at e'; cases e'
    exact .lst upd_same (r.mono g)
  | dict ds =>
    obtain ⟨xs, e', r⟩ := h
    rw [e] at e'; cases e'
    exact .dct upd_same (r.mono g)
  | _ => exact False.elim h
theorem stp_fz {p : Addr} {o : HO} (e : H p = some o) (hn : S p = none) : Stp (fun _ => False) (fun a => a = p) H S H (upd S p o) where
  keep := fun _ _ q _ => q
  grow := fun a u q => by rw [upd_ne (ne_of_none q hn)]; exact q
  new := fun a h => by
    by_cases q : a = p
    · exact .inr (.inr q)
    · rw [upd_ne q] at h; exact .inl h
  live := fun _ h => h
theorem same_fz {p : Addr} {o : HO} (e : H p = some o) (sub : Same S H) : Same (upd S p o) H := fun a u q => by
  by_cases z : a = p
  · subst z; rw [upd_same] at q; cases q; exact e
  · rw [upd_ne z] at q; exact sub _ _ q
/-- st: from the start of it all -/
theorem RvR.fz {σ : St} {Hs Ss : Hp} {fss : Fs} (R : Rel K J σ H S fs) {v : V} {rv : Rv} {d : D} {fs' : Fs} (h : RvR K σ fs Hs H S v rv) (e : rv.fz fs = some (d, fs')) (R0 : Rel K J σ Hs Ss fss)
    (st : Stp (Wn σ fss) (Wz σ fss) Hs Ss H S) (sh : Shr fss fs) : ∃ S', Rel K J σ H S' fs' ∧ Stp (Wn σ fss) (Wz σ fss) Hs Ss H S' ∧ Shr fss fs' ∧ Rp K S' v d ∧ Stp (fun _ => False) (fun a => Wz σ fs a ∨ (Hs a = none ∧ S a = none ∧ ¬ Wn σ fs a)) H S H S' := by
  cases rv with
  | val d' => cases e; exact ⟨S, R, st, sh, h, Stp.refl⟩
  | fresh d' =>
    cases e
    obtain ⟨p, rfl, h1, h2, h3, h4⟩ := h
    obtain ⟨o, ho⟩ := h1.live
    have z := stp_fz (S := S) ho h2
    have st' := st.trans z (fun x q => q.elim) fun x q => .inr (by rw [q]; exact h3)
    refine ⟨upd S p o, ?_, st', sh, own_rp h1 ho h2, z.weak (fun _ q => q) fun x q => .inr (by rw [q]; exact ⟨h3, h2, h4⟩)⟩
    have r1 : Same (upd S p o) H := same_fz ho R.sub
    refine R0.step st' r1 R.len (fun i d e => let ⟨v, q1, q2⟩ := R.dat i d e; ⟨v, q1, q2.mono z.grow⟩) (fun i n d e => ?_) sh
    obtain ⟨q, q1, q2, q3, _⟩ := R.own i n d e
    refine ⟨q, q1, q2.mono z.grow fun _ x => x, ?_⟩
    have ne : q ≠ p := fun w => h4 ⟨i, n, d, e, by rw [← w]; exact q1⟩
    rw [upd_ne ne]
    exact q3
  | slot i =>
    have h' : σ[i]? = some (some v) := h
    simp only [Rv.fz] at e
    split at e
    · rename_i d' q
      cases e
      obtain ⟨v', h1, h2⟩ := R.dat i _ q
      rw [h'] at h1; cases h1
      exact ⟨S, R, st, sh, h2, Stp.refl⟩
    · rename_i d' q
      cases e
      obtain ⟨p, h1, h2, h3, h4⟩ := R.own i 0 _ q
      rw [h'] at h1; cases h1
      obtain ⟨o, ho⟩ := h2.live
      have z := stp_fz (S := S) ho h3
      have sh' : Shr fs (fs.set i (.dat d)) := Shr.set fun n d' z => by cases z
      have st' := st.trans z (fun x w => w.elim) fun x w => .inl (sh.wz ⟨i, d, q, by rw [w]; exact h'⟩)
      refine ⟨upd S p o, ?_, st', sh.trans sh', own_rp h2 ho h3, z.weak (fun _ q => q) fun x w => .inl ⟨i, d, q, by rw [w]; exact h'⟩⟩
      refine R0.step st' (same_fz ho R.sub) (by rw [List.length_set]; exact R.len) (fun j d2 e => ?_) (fun j n d2 e => ?_) (sh.trans sh')
      · by_cases hj : i = j
        · subst hj
          have hl : i < fs.length := (List.getElem?_eq_some_iff.mp q).1
          rw [List.getElem?_set_self hl] at e
          cases e
          exact ⟨_, h', own_rp h2 ho h3⟩
        · rw [List.getElem?_set_ne hj] at e
          obtain ⟨v, q1, q2⟩ := R.dat j d2 e
          exact ⟨v, q1, q2.mono z.grow⟩
      · by_cases hj : i = j
        · subst hj
          have hl : i < fs.length := (List.getElem?_eq_some_iff.mp q).1
          rw [List.getElem?_set_self hl] at e
          cases e
        · rw [List.getElem?_set_ne hj] at e
          obtain ⟨p2, q1, q2, q3, _⟩ := R.own j n d2 e
          refine ⟨p2, q1, q2.mono z.grow fun _ x => x, ?_⟩
          have ne : p2 ≠ p := fun w => hj (R.sep i j 0 n d d2 p q e h' (by rw [← w]; exact q1))
          rw [upd_ne ne]
          exact q3
    · cases e
end
end Fx

namespace Fx
open PySem PySem.Spec PyProof.Rows L2
/-! ### the monad: slots, an own error (by its class's name) or a value; none: not told -/
abbrev Cls := Str
abbrev M (α : Type) := Fs → Option ((Cls ⊕ α) × Fs)
def bnd {α β : Type} (f : M α) (g : α → M β) : M β := fun fs => match f fs with
  | none => none
  | some (.inl c, fs1) => some (.inl c, fs1)
  | some (.inr a, fs1) => g a fs1
def rt {α : Type} (a : α) : M α := fun fs => some (.inr a, fs)
def opt {α : Type} (o : Option α) : M α := fun fs => match o with
  | none => none
  | some a => some (.inr a, fs)
abbrev RT (β α : Type) := St → Fs → Hp → Hp → Hp → β → α → Prop
class Early {β α : Type} (R : RT β α) : Prop where
  early : ∀ {σ : St} {fs : Fs} {Hs Hs' H S : Hp} {b : β} {a : α}, (∀ x, Hs x = none → Hs' x = none) → R σ fs Hs H S b a → R σ fs Hs' H S b a
def PostE {β α : Type} (K : PySem.W.Frag) (J : Inf) (mg : Str → Option Value) (W : WX) (R : RT β α) (Q : β → Hp → Prop) (σ : St) (fs : Fs) (H S : Hp) (res : Cls ⊕ α) (fs' : Fs) : Prop :=
  ∀ H' S', Rel K J σ H' S' fs' → Stp (Wn σ fs) (Wz σ fs) H S H' S' → Shr fs fs' → match res with
    | .inl c => ∀ C, mg c = some (.ref C) → W (.ref C) none σ H'
    | .inr a => ∀ b, R σ fs' H H' S' b a → Q b H'
def Sim {β α : Type} (K : PySem.W.Frag) (J : Inf) (mg : Str → Option Value) (W : WX) (t : St → Hp → (β → Hp → Prop) → Prop) (R : RT β α) (f : M α) : Prop :=
  ∀ (σ : St) (H S : Hp) (fs : Fs) (Q : β → Hp → Prop) (res : Cls ⊕ α) (fs' : Fs), Rel K J σ H S fs → f fs = some (res, fs') → PostE K J mg W R Q σ fs H S res fs' → t σ H Q
section
variable {β α β' γ : Type} {K : PySem.W.Frag} {J : Inf} {mg : Str → Option Value} {W : WX} {σ : St} {fs fs' fs1 : Fs} {H S H1 S1 : Hp}
theorem Stp.seq {H2 S2 : Hp} (a : Stp (Wn σ fs) (Wz σ fs) H S H1 S1) (sh : Shr fs fs1) (b : Stp (Wn σ fs1) (Wz σ fs1) H1 S1 H2 S2) : Stp (Wn σ fs) (Wz σ fs) H S H2 S2 :=
  a.trans b (fun x h => .inl (sh.wn h)) fun x h => .inl (sh.wz h)
theorem Stp.calm {H2 S2 : Hp} (b : Stp (fun _ => False) (fun _ => False) H S H2 S2) : Stp (Wn σ fs) (Wz σ fs) H S H2 S2 := b.weak (fun _ z => z.elim) fun _ z => z.elim
theorem PostE.next {R' : RT β' γ} [Early R'] {Q' : β' → Hp → Prop} {res : Cls ⊕ γ} (p : PostE K J mg W R' Q' σ fs H S res fs') (st : Stp (Wn σ fs) (Wz σ fs) H S H1 S1) (sh : Shr fs fs1) : PostE K J mg W R' Q' σ fs1 H1 S1 res fs' := by
  intro H' S' R2 st2 sh2
  have st' := st.trans st2 (fun x h => .inl (sh.wn h)) fun x h => .inl (sh.wz h)
  have z := p H' S' R2 st' (sh.trans sh2)
  cases res with
  | inl c => exact z
  | inr a => exact fun b r => z b (Early.early (fun x e => st.none e) r)
theorem Sim.bind {t : St → Hp → (β → Hp → Prop) → Prop} {R : RT β α} {R' : RT β' γ} [Early R'] {f : M α} {g : α → M γ} {Q : β → Hp → Prop} {Q' : β' → Hp → Prop} {res : Cls ⊕ γ}
    (h : Sim K J mg W t R f) (rel : Rel K J σ H S fs) (e : bnd f g fs = some (res, fs')) (post : PostE K J mg W R' Q' σ fs H S res fs')
    (k : ∀ a fs1 b H1 S1, Rel K J σ H1 S1 fs1 → R σ fs1 H H1 S1 b a → g a fs1 = some (res, fs') → PostE K J mg W R' Q' σ fs1 H1 S1 res fs' → Stp (Wn σ fs) (Wz σ fs) H S H1 S1 → Shr fs fs1 → Q b H1) : t σ H Q := by
  unfold bnd at e
  split at e
  · cases e
  · rename_i c fs1 q
    cases e
    exact h σ H S fs Q _ _ rel q fun H' S' R2 st sh => post H' S' R2 st sh
  · rename_i a fs1 q
    exact h σ H S fs Q _ fs1 rel q fun H' S' R2 st sh b r => k a fs1 b H' S' R2 r e (post.next st sh) st sh
/-- nothing is done -/
theorem PostE.here {R : RT β α} {Q : β → Hp → Prop} {a : α} (p : PostE K J mg W R Q σ fs H S (.inr a) fs) (rel : Rel K J σ H S fs) {b : β} (r : R σ fs H H S b a) : Q b H := p H S rel Stp.refl (Shr.refl _) b r
end

abbrev rV (K : PySem.W.Frag) : RT V Rv := fun σ fs Hs H S v rv => RvR K σ fs Hs H S v rv
instance {K : PySem.W.Frag} : Early (rV K) := ⟨fun l r => RvR.early r l⟩
abbrev rB : RT Bool Bool := fun _ _ _ _ _ b a => b = a
instance : Early rB := ⟨fun _ r => r⟩
inductive RvsR (K : PySem.W.Frag) (σ : St) (fs : Fs) (Hs H S : Hp) : List V → List Rv → Prop
  | nil : RvsR K σ fs Hs H S [] []
  | cons {v : V} {vs : List V} {r : Rv} {rs : List Rv} : RvR K σ fs Hs H S v r → RvsR K σ fs Hs H S vs rs → RvsR K σ fs Hs H S (v :: vs) (r :: rs)
theorem RvsR.early {K : PySem.W.Frag} {σ : St} {fs : Fs} {Hs Hs' H S : Hp} (l : ∀ x, Hs x = none → Hs' x = none) : ∀ {vs : List V} {rs : List Rv}, RvsR K σ fs Hs H S vs rs → RvsR K σ fs Hs' H S vs rs
  | _, _, .nil => .nil
  | _, _, .cons r t => .cons (r.early l) (RvsR.early l t)
abbrev rVs (K : PySem.W.Frag) : RT (List V) (List Rv) := fun σ fs Hs H S v rv => RvsR K σ fs Hs H S v rv
instance {K : PySem.W.Frag} : Early (rVs K) := ⟨fun l r => RvsR.early l r⟩

def FE (X : Cx) (J : Inf) (W : WX) (e : Expr) (f : M Rv) : Prop := ∃ t, PE X e t ∧ Sim X.K J X.mg W t (rV X.K) f
def FT (X : Cx) (J : Inf) (W : WX) (e : Expr) (f : M Bool) : Prop := ∃ t, PT X e t ∧ Sim X.K J X.mg W t rB f
def FW (X : Cx) (J : Inf) (W : WX) (e : Expr) (f : M Bool) : Prop := ∃ t, PW X e t ∧ Sim X.K J X.mg W t rB f
def FA (X : Cx) (J : Inf) (W : WX) (es : List Expr) (f : M (List Rv)) : Prop := ∃ t, PA X es t ∧ Sim X.K J X.mg W t (rVs X.K) f

/-! ### names, constants -/
def fVar (i : Nat) : M Rv := fun fs => match fs[i]? with
  | some (.dat d) => some (.inr (.val d), fs)
  | some (.own _ _) => some (.inr (.slot i), fs)
  | _ => none
def fVal (d : D) : M Rv := fun fs => some (.inr (.val d), fs)
section
variable {X : Cx} {J : Inf} {W : WX} {a b c : Expr} {es : List Expr} {f g h : M Rv} {pos : Pos}
theorem sim_val {K : PySem.W.Frag} {mg : Str → Option Value} {v : V} {d : D} (r : ∀ S, Rp K S v d) : Sim K J mg W (tC v) (rV K) (fVal d) := by
  intro σ H S fs Q res fs' R e p
  cases e
  exact p.here R (r S)
theorem fe_var (i : Nat) {x : Str} (hN : X.N[i]? = some x := by rfl) (hv : Vis X.env.scope x := by first | exact Or.inl rfl | exact Or.inr (Or.inl rfl) | exact Or.inr (Or.inr rfl)) (hd : (x == ("__debug__" : Str)) = false := by decide)
    (hcd : (x == ("__classdict__" : Str)) = false := by decide) : FE X J W (.Name x pos) (fVar i) := by
  refine ⟨_, pe_var hN hv hd hcd, fun σ H S fs Q res fs' R e p => ?_⟩
  unfold fVar at e
  split at e
  · rename_i d q
    cases e
    obtain ⟨v, h1, h2⟩ := R.dat i d q
    exact ⟨v, h1, p.here R h2⟩
  · rename_i n d q
    cases e
    obtain ⟨v, h1, h2⟩ := R.own i n d q
    exact ⟨_, h1, p.here R h1⟩
  · cases e
theorem fe_int {i : Int} {j} : FE X J W (.Constant (.int i) j pos) (fVal (.int i)) := ⟨_, pe_int, sim_val fun _ => .int i⟩
theorem fe_bl {i : Bool} {j} : FE X J W (.Constant (.bool i) j pos) (fVal (.bool i)) := ⟨_, pe_bl, sim_val fun _ => .bl i⟩
theorem fe_non {j} : FE X J W (.Constant .none j pos) (fVal .none) := ⟨_, pe_non, sim_val fun _ => .non⟩
theorem fe_str {x : Str} {j} : FE X J W (.Constant (.str x) j pos) (fVal (.str x)) := ⟨_, pe_str, sim_val fun _ => .str x⟩
/-- a constant of the module -/
theorem fe_glob {x : Str} {v : V} {u : Value} {d : D} (hg : Gl X x) (hm : X.mg x = some u) (r : RelV v u) (rd : ∀ S, Rp X.K S v d) (hd : (x == ("__debug__" : Str)) = false := by decide) : FE X J W (.Name x pos) (fVal d) :=
  ⟨_, pe_glob hg hm r hd, sim_val rd⟩

/-! ### operations by values -/
/-- what is wanted behind an operation on values -/
def PostV (X : Cx) (J : Inf) (σ : St) (fs : Fs) (H S : Hp) (rv : Rv) (Q : VK) : Prop :=
  ∀ H' S', Rel X.K J σ H' S' fs → Stp (fun _ => False) (fun _ => False) H S H' S' → ∀ v, RvR X.K σ fs H H' S' v rv → Q v H'
def Op2 (X : Cx) (r : R2) (h : D → D → Option Rv) : Prop :=
  ∀ (J : Inf) (σ : St) (fs : Fs) (H S : Hp) (x y : V) (d e : D) (rv : Rv) (Q : VK), Rel X.K J σ H S fs → RpB X.K S H x d → RpB X.K S H y e → h d e = some rv → PostV X J σ fs H S rv Q → r x y H Q
def Op1 (X : Cx) (r : V → Hp → VK → Prop) (h : D → Option Rv) : Prop :=
  ∀ (J : Inf) (σ : St) (fs : Fs) (H S : Hp) (x : V) (d : D) (rv : Rv) (Q : VK), Rel X.K J σ H S fs → RpB X.K S H x d → h d = some rv → PostV X J σ fs H S rv Q → r x H Q
inductive RpBs (K : PySem.W.Frag) (S H : Hp) : List V → List D → Prop
  | nil : RpBs K S H [] []
  | cons {v : V} {vs : List V} {d : D} {ds : List D} : RpB K S H v d → RpBs K S H vs ds → RpBs K S H (v :: vs) (d :: ds)
def OpN (X : Cx) (r : List V → Hp → VK → Prop) (h : List D → Option Rv) : Prop :=
  ∀ (J : Inf) (σ : St) (fs : Fs) (H S : Hp) (xs : List V) (ds : List D) (rv : Rv) (Q : VK), Rel X.K J σ H S fs → RpBs X.K S H xs ds → h ds = some rv → PostV X J σ fs H S rv Q → r xs H Q
theorem PostE.toV {σ : St} {fs : Fs} {H S : Hp} {rv : Rv} {Q : VK} (p : PostE X.K J X.mg W (rV X.K) Q σ fs H S (.inr rv) fs) : PostV X J σ fs H S rv Q :=
  fun H' S' R st v r => p H' S' R (st.weak (fun _ z => z.elim) fun _ z => z.elim) (Shr.refl _) v r
/-- a scalar comes, nothing else -/
theorem PostV.here {σ : St} {fs : Fs} {H S : Hp} {rv : Rv} {Q : VK} (p : PostV X J σ fs H S rv Q) (R : Rel X.K J σ H S fs) {v : V} (r : RvR X.K σ fs H H S v rv) : Q v H := p H S R Stp.refl v r
/-- a new list -/
theorem PostV.newL {σ : St} {fs : Fs} {H S : Hp} {Q : VK} {xs : List V} {ds : List D} (p : PostV X J σ fs H S (.fresh (.list ds)) Q) (R : Rel X.K J σ H S fs) (r : Rps X.K S xs ds) {l : Addr} (hl : H l = none) : Q (.ref l) (upd H l (.lst xs)) := by
  have st := stp_newH (S := S) (o := .lst xs) hl
  refine p _ _ (R.grown st (same_newH hl R.sub)) st _ ⟨l, rfl, ⟨xs, upd_same, r⟩, ?_, hl, fun z => ?_⟩
  · cases e : S l with
    | none => rfl
    | some o => rw [R.sub _ _ e] at hl; cases hl
  · obtain ⟨o, e⟩ := R.wn_live z
    rw [hl] at e; cases e
theorem rp_newT {K : PySem.W.Frag} {S H : Hp} {xs : List V} {ds : List D} {o : Obj} (hd : o.dict = none) (sub : Same S H) (r : Rps K S xs ds) {l : Addr} (hl : H l = none) : Rp K (upd S l (.frz o (.tup xs))) (.ref l) (.tuple ds) :=
  .tup (.inl (.inr ⟨o, upd_same⟩)) (.inl ⟨o, _, upd_same, hd⟩) (r.mono fun a u e => by rw [upd_ne (ne_of_none (sub _ _ e) hl)]; exact e)
/-- a new tuple -/
theorem PostV.newT {σ : St} {fs : Fs} {H S : Hp} {Q : VK} {xs : List V} {ds : List D} (p : PostV X J σ fs H S (.val (.tuple ds)) Q) (R : Rel X.K J σ H S fs) (r : Rps X.K S xs ds) {l : Addr} (hl : H l = none) {o : Obj} (hd : o.dict = none) : Q (.ref l) (upd H l (.frz o (.tup xs))) := by
  have st := stp_newS (o := .frz o (.tup xs)) hl R.sub
  exact p _ _ (R.grown st (same_newS hl R.sub)) st _ (rp_newT hd R.sub r hl)

/-! ### binary operators, comparisons -/
def rd2 (h : D → D → Option Rv) (x y : Rv) : M Rv := fun fs => match x.rd fs, y.rd fs with
  | some d, some e => match h d e with
    | some rv => some (.inr rv, fs)
    | none => none
  | _, _ => none
def rd1 (h : D → Option Rv) (x : Rv) : M Rv := fun fs => match x.rd fs with
  | some d => match h d with
    | some rv => some (.inr rv, fs)
    | none => none
  | _ => none
def fBin (h : D → D → Option Rv) (f g : M Rv) : M Rv := bnd f fun x => bnd g fun y => rd2 h x y
def fUn (h : D → Option Rv) (f : M Rv) : M Rv := bnd f fun x => rd1 h x
theorem rd2_run {o : R2} {h : D → D → Option Rv} (ho : Op2 X o h) {σ : St} {fs fs' : Fs} {H S : Hp} {x y : V} {rx ry : Rv} {res : Cls ⊕ Rv} {Q : VK} {Hs Hs' : Hp} (R : Rel X.K J σ H S fs) (r1 : RvR X.K σ fs Hs H S x rx) (r2 : RvR X.K σ fs Hs' H S y ry)
    (e : rd2 h rx ry fs = some (res, fs')) (p : PostE X.K J X.mg W (rV X.K) Q σ fs H S res fs') : o x y H Q := by
  unfold rd2 at e
  split at e
  · rename_i d e' q1 q2
    split at e
    · rename_i rv q3
      cases e
      exact ho J σ fs H S x y d e' rv Q R (r1.rd R q1) (r2.rd R q2) q3 p.toV
    · cases e
  · cases e
theorem rd1_run {o : V → Hp → VK → Prop} {h : D → Option Rv} (ho : Op1 X o h) {σ : St} {fs fs' : Fs} {H S : Hp} {x : V} {rx : Rv} {res : Cls ⊕ Rv} {Q : VK} {Hs : Hp} (R : Rel X.K J σ H S fs) (r1 : RvR X.K σ fs Hs H S x rx)
    (e : rd1 h rx fs = some (res, fs')) (p : PostE X.K J X.mg W (rV X.K) Q σ fs H S res fs') : o x H Q := by
  unfold rd1 at e
  split at e
  · rename_i d q1
    split at e
    · rename_i rv q3
      cases e
      exact ho J σ fs H S x d rv Q R (r1.rd R q1) q3 p.toV
    · cases e
  · cases e
theorem sim_op2 {ta tb : TE} {o : R2} {h : D → D → Option Rv} (ho : Op2 X o h) (sa : Sim X.K J X.mg W ta (rV X.K) f) (sb : Sim X.K J X.mg W tb (rV X.K) g) : Sim X.K J X.mg W (tOp o ta tb) (rV X.K) (fBin h f g) := by
  intro σ H S fs Q res fs' R e p
  refine sa.bind R e p fun rx fs1 x H1 S1 R1 r1 e1 p1 st1 sh1 => ?_
  refine sb.bind R1 e1 p1 fun ry fs2 y H2 S2 R2 r2 e2 p2 st2 sh2 => ?_
  exact rd2_run ho R2 (r1.later st2 sh2) r2 e2 p2
theorem sim_op1 {ta : TE} {o : V → Hp → VK → Prop} {h : D → Option Rv} (ho : Op1 X o h) (sa : Sim X.K J X.mg W ta (rV X.K) f) : Sim X.K J X.mg W (tUn o ta) (rV X.K) (fUn h f) := by
  intro σ H S fs Q res fs' R e p
  refine sa.bind R e p fun rx fs1 x H1 S1 R1 r1 e1 p1 st1 sh1 => ?_
  exact rd1_run ho R1 r1 e1 p1
theorem fe_op {op : Operator} {o : R2} {h : D → D → Option Rv} (hr : OpR X (binaryOp op) o) (ho : Op2 X o h) (ha : FE X J W a f) (hb : FE X J W b g) : FE X J W (.BinOp a op b pos) (fBin h f g) := by
  obtain ⟨ta, pa, sa⟩ := ha
  obtain ⟨tb, pb, sb⟩ := hb
  exact ⟨_, pe_op hr pa pb, sim_op2 ho sa sb⟩
theorem fe_un {op : UnaryOp} {o : V → Hp → VK → Prop} {h : D → Option Rv} (hr : UnR X (unaryOp op) o) (ho : Op1 X o h) (ha : FE X J W a f) : FE X J W (.UnaryOp op a pos) (fUn h f) := by
  obtain ⟨ta, pa, sa⟩ := ha
  exact ⟨_, pe_un hr pa, sim_op1 ho sa⟩
theorem fe_cmp {op : CmpOp} {o : R2} {h : D → D → Option Rv} (hr : OpR X (compareOp op) o) (ho : Op2 X o h) (hm : behindInMarks op b = false) (ha : FE X J W a f) (hb : FE X J W b g) : FE X J W (.Compare a [op] [b] pos) (fBin h f g) := by
  obtain ⟨ta, pa, sa⟩ := ha
  obtain ⟨tb, pb, sb⟩ := hb
  exact ⟨_, pe_cmpR hr pa pb hm, sim_op2 ho sa sb⟩
/-- a value that is a truth, as a test -/
def toB : Rv → M Bool := fun r fs => match r with
  | .val (.bool b) => some (.inr b, fs)
  | _ => none
def fB (f : M Rv) : M Bool := bnd f toB
theorem toB_run {K : PySem.W.Frag} {mg : Str → Option Value} {σ : St} {fs fs' : Fs} {H S Hs : Hp} {x : V} {rx : Rv} {res : Cls ⊕ Bool} {Q : Bool → Hp → Prop} (R : Rel K J σ H S fs) (r1 : RvR K σ fs Hs H S x rx) (e : toB rx fs = some (res, fs')) (p : PostE K J mg W rB Q σ fs H S res fs') : ∃ k, x = .bl k ∧ Q k H := by
  unfold toB at e
  split at e
  · rename_i b
    cases e
    have r : Rp K S x (.bool b) := r1
    cases r
    exact ⟨b, rfl, p.here R rfl⟩
  · cases e
theorem ft_cmp {op : CmpOp} {o : R2} {h : D → D → Option Rv} (hr : OpR X (compareOp op) o) (ho : Op2 X o h) (hm : behindInMarks op b = false) (ha : FE X J W a f) (hb : FE X J W b g) : FT X J W (.Compare a [op] [b] pos) (fB (fBin h f g)) := by
  obtain ⟨ta, pa, sa⟩ := ha
  obtain ⟨tb, pb, sb⟩ := hb
  refine ⟨_, pt_cmpR hr pa pb hm, fun σ H S fs Q res fs' R e p => ?_⟩
  exact (sim_op2 ho sa sb).bind R e p fun rx fs1 x H1 S1 R1 r1 e1 p1 _ _ => toB_run R1 r1 e1 p1
theorem ft_val (ha : FE X J W a f) (he : ∀ whole, isTrue a X.env whole = (do let v ← whole; standAt a.pos; holding [v] (truthy v)) := by intro _; rfl) : FT X J W a (fB f) := by
  obtain ⟨ta, pa, sa⟩ := ha
  refine ⟨_, pt_val pa he, fun σ H S fs Q res fs' R e p => ?_⟩
  exact sa.bind R e p fun rx fs1 x H1 S1 R1 r1 e1 p1 _ _ => toB_run R1 r1 e1 p1
/-! ### and, or, not as tests -/
def fAnd (f g : M Bool) : M Bool := bnd f fun b => match b with
  | true => g
  | false => rt false
def fOr (f g : M Bool) : M Bool := bnd f fun b => match b with
  | true => rt true
  | false => g
def fNot (f : M Bool) : M Bool := bnd f fun b => rt (!b)
variable {u v : M Bool} {rest : List Expr}
theorem fw_and1 (ha : FT X J W a u) : FW X J W (.BoolOp .And [a] pos) u := let ⟨t, p, s⟩ := ha; ⟨t, pw_and1 p, s⟩
theorem fw_or1 (ha : FT X J W a u) : FW X J W (.BoolOp .Or [a] pos) u := let ⟨t, p, s⟩ := ha; ⟨t, pw_or1 p, s⟩
theorem fw_and (ha : FT X J W a u) (hb : FW X J W (.BoolOp .And (b :: rest) pos) v) : FW X J W (.BoolOp .And (a :: b :: rest) pos) (fAnd u v) := by
  obtain ⟨ta, pa, sa⟩ := ha
  obtain ⟨tb, pb, sb⟩ := hb
  refine ⟨_, pw_and pa pb, fun σ H S fs Q res fs' R e p => ?_⟩
  refine sa.bind R e p fun k fs1 k' H1 S1 R1 r1 e1 p1 _ _ => ?_
  cases r1
  cases k with
  | true =>
    rw [if_pos rfl]
    exact sb σ H1 S1 fs1 Q res fs' R1 e1 p1
  | false =>
    rw [if_neg Bool.false_ne_true]
    cases e1
    exact p1.here R1 rfl
theorem fw_or (ha : FT X J W a u) (hb : FW X J W (.BoolOp .Or (b :: rest) pos) v) : FW X J W (.BoolOp .Or (a :: b :: rest) pos) (fOr u v) := by
  obtain ⟨ta, pa, sa⟩ := ha
  obtain ⟨tb, pb, sb⟩ := hb
  refine ⟨_, pw_or pa pb, fun σ H S fs Q res fs' R e p => ?_⟩
  refine sa.bind R e p fun k fs1 k' H1 S1 R1 r1 e1 p1 _ _ => ?_
  cases r1
  cases k with
  | false =>
    rw [if_neg Bool.false_ne_true]
    exact sb σ H1 S1 fs1 Q res fs' R1 e1 p1
  | true =>
    rw [if_pos rfl]
    cases e1
    exact p1.here R1 rfl
theorem FW.ft (h : FW X J W a u) : FT X J W a u := let ⟨t, p, s⟩ := h; ⟨t, p.pt, s⟩
theorem ft_not (ha : FT X J W a u) : FT X J W (.UnaryOp .Not a pos) (fNot u) := by
  obtain ⟨ta, pa, sa⟩ := ha
  refine ⟨_, pt_not pa, fun σ H S fs Q res fs' R e p => ?_⟩
  refine sa.bind R e p fun k fs1 k' H1 S1 R1 r1 e1 p1 _ _ => ?_
  cases r1
  cases e1
  exact p1.here R1 rfl
/-! ### .. as values -/
def fAndV (f g : M Rv) : M Rv := bnd (fB f) fun b => match b with
  | true => g
  | false => fVal (.bool false)
def fOrV (f g : M Rv) : M Rv := bnd (fB f) fun b => match b with
  | true => fVal (.bool true)
  | false => g
def fNotV (f : M Rv) : M Rv := bnd (fB f) fun b => fVal (.bool !b)
theorem sim_fB {K : PySem.W.Frag} {mg : Str → Option Value} {ta : TE} (sa : Sim K J mg W ta (rV K) f) : Sim K J mg W (fun σ H Q => ta σ H fun x H1 => ∃ c, x = .bl c ∧ Q c H1) rB (fB f) := by
  intro σ H S fs Q res fs' R e p
  exact sa.bind R e p fun rx fs1 x H1 S1 R1 r1 e1 p1 _ _ => toB_run R1 r1 e1 p1
theorem tB_use {ta : TE} {K : PySem.W.Frag} {mg : Str → Option Value} (sa : Sim K J mg W ta (rV K) f) {g : Bool → M Rv} {σ : St} {H S : Hp} {fs fs' : Fs} {Q : VK} {res : Cls ⊕ Rv} {A : Bool → Hp → Prop} (R : Rel K J σ H S fs) (e : bnd (fB f) g fs = some (res, fs')) (p : PostE K J mg W (rV K) Q σ fs H S res fs')
    (k : ∀ (b : Bool) fs1 H1 S1, Rel K J σ H1 S1 fs1 → g b fs1 = some (res, fs') → PostE K J mg W (rV K) Q σ fs1 H1 S1 res fs' → A b H1) : ta σ H fun x H1 => ∃ c, x = .bl c ∧ A c H1 :=
  (sim_fB sa).bind (Q := A) R e p fun b fs1 b' H1 S1 R1 r1 e1 p1 _ _ => by cases r1; exact k b fs1 H1 S1 R1 e1 p1
theorem fe_one {op} (ha : FE X J W a f) : FE X J W (.BoolOp op [a] pos) f := let ⟨t, p, s⟩ := ha; ⟨t, pe_one p, s⟩
theorem fe_and (ha : FE X J W a f) (hb : FE X J W (.BoolOp .And (b :: rest) pos) g) : FE X J W (.BoolOp .And (a :: b :: rest) pos) (fAndV f g) := by
  obtain ⟨ta, pa, sa⟩ := ha
  obtain ⟨tb, pb, sb⟩ := hb
  refine ⟨_, pe_and pa pb, fun σ H S fs Q res fs' R e p => ?_⟩
  refine tB_use sa R e p fun k fs1 H1 S1 R1 e1 p1 => ?_
  cases k with
  | true =>
    rw [if_pos rfl]
    exact sb σ H1 S1 fs1 Q res fs' R1 e1 p1
  | false =>
    rw [if_neg Bool.false_ne_true]
    cases e1
    exact p1.here R1 (Rp.bl false)
theorem fe_or (ha : FE X J W a f) (hb : FE X J W (.BoolOp .Or (b :: rest) pos) g) : FE X J W (.BoolOp .Or (a :: b :: rest) pos) (fOrV f g) := by
  obtain ⟨ta, pa, sa⟩ := ha
  obtain ⟨tb, pb, sb⟩ := hb
  refine ⟨_, pe_or pa pb, fun σ H S fs Q res fs' R e p => ?_⟩
  refine tB_use sa R e p fun k fs1 H1 S1 R1 e1 p1 => ?_
  cases k with
  | false =>
    rw [if_neg Bool.false_ne_true]
    exact sb σ H1 S1 fs1 Q res fs' R1 e1 p1
  | true =>
    rw [if_pos rfl]
    cases e1
    exact p1.here R1 (Rp.bl true)
theorem fe_not (ha : FE X J W a f) : FE X J W (.UnaryOp .Not a pos) (fNotV f) := by
  obtain ⟨ta, pa, sa⟩ := ha
  refine ⟨_, pe_not pa, fun σ H S fs Q res fs' R e p => ?_⟩
  refine tB_use (A := fun c H1 => Q (.bl (!c)) H1) sa R e p fun k fs1 H1 S1 R1 e1 p1 => ?_
  cases e1
  exact p1.here R1 (Rp.bl _)
/-! ### a < b <= c -/
def fChain (h h' : D → D → Option Rv) (f g k : M Rv) : M Rv := bnd f fun x => bnd g fun y => fun fs => match x.rd fs, y.rd fs with
  | some d, some e => match h d e with
    | some (.val (.bool true)) => bnd k (fun z => rd2 h' y z) fs
    | some (.val (.bool false)) => some (.inr (.val (.bool false)), fs)
    | _ => none
  | _, _ => none
theorem fe_chain {op op' : CmpOp} {o o' : R2} {h h' : D → D → Option Rv} {k : M Rv} (hr : OpR X (compareOp op) o) (ho : Op2 X o h) (hr' : OpR X (compareOp op') o') (ho' : Op2 X o' h') (ha : FE X J W a f) (hb : FE X J W b g) (hc : FE X J W c k)
    (hm : lastMarks [op, op'] [b, c] = false := by with_unfolding_all rfl) : FE X J W (.Compare a [op, op'] [b, c] pos) (fChain h h' f g k) := by
  obtain ⟨ta, pa, sa⟩ := ha
  obtain ⟨tb, pb, sb⟩ := hb
  obtain ⟨tc, pc, sc⟩ := hc
  refine ⟨_, pe_chain hr hr' pa pb pc hm, fun σ H S fs Q res fs' R e p => ?_⟩
  refine sa.bind R e p fun rx fs1 x H1 S1 R1 r1 e1 p1 st1 sh1 => ?_
  refine sb.bind R1 e1 p1 fun ry fs2 y H2 S2 R2 r2 e2 p2 st2 sh2 => ?_
  have r1' := r1.later st2 sh2
  split at e2
  · rename_i d e' q1 q2
    split at e2
    · rename_i q3
      refine ho J σ fs2 H2 S2 x y d e' _ _ R2 (r1'.rd R2 q1) (r2.rd R2 q2) q3 fun H3 S3 R3 st3 v rv => ?_
      cases (show Rp X.K S3 v (.bool true) from rv)
      refine ⟨true, rfl, ?_⟩
      rw [if_pos rfl]
      have st3' : Stp (Wn σ fs2) (Wz σ fs2) H2 S2 H3 S3 := st3.weak (fun _ z => z.elim) fun _ z => z.elim
      refine sc.bind R3 e2 (p2.next st3' (Shr.refl _)) fun rz fs4 z H4 S4 R4 r4 e4 p4 st4 sh4 => ?_
      exact rd2_run ho' R4 ((r2.later st3' (Shr.refl _)).later st4 sh4) r4 e4 p4
    · rename_i q3
      cases e2
      refine ho J σ _ H2 S2 x y d e' _ _ R2 (r1'.rd R2 q1) (r2.rd R2 q2) q3 fun H3 S3 R3 st3 v rv => ?_
      cases (show Rp X.K S3 v (.bool false) from rv)
      refine ⟨false, rfl, ?_⟩
      rw [if_neg Bool.false_ne_true]
      exact (p2.next (st3.weak (fun _ z => z.elim) fun _ z => z.elim) (Shr.refl _)).here R3 (Rp.bl false)
    · cases e2
  · cases e2
theorem ft_chain {op op' : CmpOp} {o o' : R2} {h h' : D → D → Option Rv} {k : M Rv} (hr : OpR X (compareOp op) o) (ho : Op2 X o h) (hr' : OpR X (compareOp op') o') (ho' : Op2 X o' h') (ha : FE X J W a f) (hb : FE X J W b g) (hc : FE X J W c k)
    (hm : lastMarks [op, op'] [b, c] = false := by with_unfolding_all rfl) : FT X J W (.Compare a [op, op'] [b, c] pos) (fB (fChain h h' f g k)) := by
  obtain ⟨ta, pa, sa⟩ := ha
  obtain ⟨tb, pb, sb⟩ := hb
  obtain ⟨tc, pc, sc⟩ := hc
  refine ⟨_, pt_chain hr hr' pa pb pc hm, fun σ H S fs Q res fs' R e p => ?_⟩
  have key : Sim X.K J X.mg W (tChain o o' ta tb tc) (rV X.K) (fChain h h' f g k) := by
    intro σ H S fs Q res fs' R e p
    refine sa.bind R e p fun rx fs1 x H1 S1 R1 r1 e1 p1 st1 sh1 => ?_
    refine sb.bind R1 e1 p1 fun ry fs2 y H2 S2 R2 r2 e2 p2 st2 sh2 => ?_
    have r1' := r1.later st2 sh2
    split at e2
    · rename_i d e' q1 q2
      split at e2
      · rename_i q3
        refine ho J σ fs2 H2 S2 x y d e' _ _ R2 (r1'.rd R2 q1) (r2.rd R2 q2) q3 fun H3 S3 R3 st3 v rv => ?_
        cases (show Rp X.K S3 v (.bool true) from rv)
        refine ⟨true, rfl, ?_⟩
        rw [if_pos rfl]
        have st3' : Stp (Wn σ fs2) (Wz σ fs2) H2 S2 H3 S3 := st3.weak (fun _ z => z.elim) fun _ z => z.elim
        refine sc.bind R3 e2 (p2.next st3' (Shr.refl _)) fun rz fs4 z H4 S4 R4 r4 e4 p4 st4 sh4 => ?_
        exact rd2_run ho' R4 ((r2.later st3' (Shr.refl _)).later st4 sh4) r4 e4 p4
      · rename_i q3
        cases e2
        refine ho J σ _ H2 S2 x y d e' _ _ R2 (r1'.rd R2 q1) (r2.rd R2 q2) q3 fun H3 S3 R3 st3 v rv => ?_
        cases (show Rp X.K S3 v (.bool false) from rv)
        refine ⟨false, rfl, ?_⟩
        rw [if_neg Bool.false_ne_true]
        exact (p2.next (st3.weak (fun _ z => z.elim) fun _ z => z.elim) (Shr.refl _)).here R3 (Rp.bl false)
      · cases e2
    · cases e2
  exact key.bind R e p fun rx fs1 x H1 S1 R1 r1 e1 p1 _ _ => toB_run R1 r1 e1 p1

/-! ### displays, arguments -/
def fNil : M (List Rv) := rt []
def fCons (f : M Rv) (g : M (List Rv)) : M (List Rv) := bnd f fun x => bnd g fun xs => rt (x :: xs)
theorem fa_nil : FA X J W [] fNil := ⟨_, pa_nil, fun σ H S fs Q res fs' R e p => by cases e; exact p.here R .nil⟩
theorem fa_cons {gs : M (List Rv)} (ha : FE X J W a f) (hr : FA X J W es gs) (hs : starEach (a :: es) X.env = (false, eval a X.env) :: starEach es X.env := by rfl) : FA X J W (a :: es) (fCons f gs) := by
  obtain ⟨ta, pa, sa⟩ := ha
  obtain ⟨tb, pb, sb⟩ := hr
  refine ⟨_, pa_cons pa pb hs, fun σ H S fs Q res fs' R e p => ?_⟩
  refine sa.bind R e p fun rx fs1 x H1 S1 R1 r1 e1 p1 st1 sh1 => ?_
  refine sb.bind R1 e1 p1 fun rs fs2 xs H2 S2 R2 r2 e2 p2 st2 sh2 => ?_
  cases e2
  exact p H2 S2 R2 (st1.seq sh1 st2) (sh1.trans sh2) _ (.cons (r1.later st2 sh2) (r2.early fun _ z => st1.none z))
/-- the values for good -/
def fzs : List Rv → Fs → Option (List D × Fs)
  | [], fs => some ([], fs)
  | r :: rs, fs => match r.fz fs with
    | none => none
    | some (d, fs1) => match fzs rs fs1 with
      | none => none
      | some (ds, fs2) => some (d :: ds, fs2)
end
/-- the same address behind two of them: no -/
theorem RvR.fzLater {K : PySem.W.Frag} {J : Inf} {σ : St} {Hs H S S' : Hp} {fs fs' : Fs} {v : V} {rv : Rv} {Z : Addr → Prop} (h : RvR K σ fs Hs H S v rv) (st : Stp (fun _ => False) Z H S H S') (sh : Shr fs fs')
    (nz : ∀ p, v = .ref p → (∃ d, rv = .fresh d) → ¬ Z p) : RvR K σ fs' Hs H S' v rv := by
  cases rv with
  | val d => exact Rp.mono st.grow h
  | slot i => exact h
  | fresh d =>
    obtain ⟨p, e, h1, h2, h3, h4⟩ := h
    refine ⟨p, e, h1.mono st.grow fun _ q => q, ?_, h3, fun z => h4 (sh.wn z)⟩
    cases q : S' p with
    | none => rfl
    | some o =>
      rcases st.new p (by rw [q]; simp) with z | z | z
      · exact absurd h2 z
      · obtain ⟨o', z'⟩ := h1.live
        rw [z] at z'; cases z'
      · exact absurd z (nz p e ⟨d, rfl⟩)
end Fx

namespace Fx
open PySem PySem.Spec PyProof.Rows L2
/-! ### values for good -/
def fzM (x : Rv) : M D := fun fs => match x.fz fs with
  | some (d, fs1) => some (.inr d, fs1)
  | none => none
def fD (f : M Rv) : M D := bnd f fzM
abbrev rD (K : PySem.W.Frag) : RT V D := fun _ _ _ _ S v d => Rp K S v d
instance {K : PySem.W.Frag} : Early (rD K) := ⟨fun _ r => r⟩
abbrev rDs (K : PySem.W.Frag) : RT (List V) (List D) := fun _ _ _ _ S v d => Rps K S v d
instance {K : PySem.W.Frag} : Early (rDs K) := ⟨fun _ r => r⟩
theorem Sim.fz {K : PySem.W.Frag} {J : Inf} {mg : Str → Option Value} {W : WX} {t : TE} {f : M Rv} (sa : Sim K J mg W t (rV K) f) : Sim K J mg W t (rD K) (fD f) := by
  intro σ H S fs Q res fs' R e p
  unfold fD bnd at e
  split at e
  · cases e
  · rename_i c fs1 q
    cases e
    exact sa σ H S fs Q _ _ R q fun H' S' R2 st sh => p H' S' R2 st sh
  · rename_i rv fs1 q
    unfold fzM at e
    split at e
    · rename_i d fs2 q2
      cases e
      refine sa σ H S fs Q _ _ R q fun H' S' R2 st sh v r => ?_
      obtain ⟨S2, R3, st3, sh3, r3, _⟩ := RvR.fz R2 r q2 R st sh
      exact p H' S2 R3 st3 sh3 v r3
    · cases e
def FD (X : Cx) (J : Inf) (W : WX) (e : Expr) (f : M D) : Prop := ∃ t, PE X e t ∧ Sim X.K J X.mg W t (rD X.K) f
section
variable {X : Cx} {J : Inf} {W : WX} {a b c : Expr} {es : List Expr} {f g h : M Rv} {pos : Pos}
theorem FE.d (h : FE X J W a f) : FD X J W a (fD f) := let ⟨t, p, s⟩ := h; ⟨t, p, s.fz⟩

/-! ### arguments: values for good, or an owned list handed on -/
inductive Av where
  | dat (d : D)
  | box (i : Nat)
def AvR (K : PySem.W.Frag) (σ : St) (S : Hp) (v : V) : Av → Prop
  | .dat d => Rp K S v d
  | .box i => σ[i]? = some (some v)
inductive AvsR (K : PySem.W.Frag) (σ : St) (S : Hp) : List V → List Av → Prop
  | nil : AvsR K σ S [] []
  | cons {v : V} {vs : List V} {a : Av} {as : List Av} : AvR K σ S v a → AvsR K σ S vs as → AvsR K σ S (v :: vs) (a :: as)
abbrev rAv (K : PySem.W.Frag) : RT (List V) (List Av) := fun σ _ _ _ S v d => AvsR K σ S v d
instance {K : PySem.W.Frag} : Early (rAv K) := ⟨fun _ r => r⟩
def FAs (X : Cx) (J : Inf) (W : WX) (es : List Expr) (f : M (List Av)) : Prop := ∃ t, PA X es t ∧ Sim X.K J X.mg W t (rAv X.K) f
def FDs (X : Cx) (J : Inf) (W : WX) (es : List Expr) (f : M (List D)) : Prop := ∃ t, PA X es t ∧ Sim X.K J X.mg W t (rDs X.K) f
def aNil : M (List Av) := rt []
def aCons (f : M Rv) (g : M (List Av)) : M (List Av) := bnd (fD f) fun d => bnd g fun as => rt (.dat d :: as)
def aBox (i : Nat) (g : M (List Av)) : M (List Av) := bnd g fun as => rt (.box i :: as)
def dNil : M (List D) := rt []
def dCons (f : M Rv) (g : M (List D)) : M (List D) := bnd (fD f) fun d => bnd g fun ds => rt (d :: ds)
theorem AvR.mono {K : PySem.W.Frag} {σ : St} {S S' : Hp} {v : V} {a : Av} (h : Same S S') (r : AvR K σ S v a) : AvR K σ S' v a := by
  cases a with
  | dat d => exact Rp.mono h r
  | box i => exact r
theorem fas_nil : FAs X J W [] aNil := ⟨_, pa_nil, fun σ H S fs Q res fs' R e p => by cases e; exact p.here R .nil⟩
theorem fas_cons {gs : M (List Av)} (ha : FE X J W a f) (hr : FAs X J W es gs) (hs : starEach (a :: es) X.env = (false, eval a X.env) :: starEach es X.env := by rfl) : FAs X J W (a :: es) (aCons f gs) := by
  obtain ⟨ta, pa, sa⟩ := ha.d
  obtain ⟨tb, pb, sb⟩ := hr
  refine ⟨_, pa_cons pa pb hs, fun σ H S fs Q res fs' R e p => ?_⟩
  refine sa.bind R e p fun d fs1 x H1 S1 R1 r1 e1 p1 st1 sh1 => ?_
  refine sb.bind R1 e1 p1 fun rs fs2 xs H2 S2 R2 r2 e2 p2 st2 sh2 => ?_
  cases e2
  exact p2.here R2 (.cons (show AvR X.K σ S2 x (.dat d) from Rp.mono st2.grow r1) r2)
def aBoxN (i : Nat) (g : M (List Av)) : M (List Av) := fun fs => match fs[i]? with
  | some (.own _ _) => aBox i g fs
  | _ => none
theorem fas_box {i : Nat} {x : Str} {gs : M (List Av)} (hr : FAs X J W es gs) (hN : X.N[i]? = some x := by rfl) (hv : Vis X.env.scope x := by first | exact Or.inl rfl | exact Or.inr (Or.inl rfl) | exact Or.inr (Or.inr rfl)) (hd : (x == ("__debug__" : Str)) = false := by decide)
    (hcd : (x == ("__classdict__" : Str)) = false := by decide) (hs : starEach (.Name x pos :: es) X.env = (false, eval (.Name x pos) X.env) :: starEach es X.env := by rfl) : FAs X J W (.Name x pos :: es) (aBoxN i gs) := by
  obtain ⟨tb, pb, sb⟩ := hr
  refine ⟨_, pa_cons (pe_var (i := i) hN hv hd hcd) pb hs, fun σ H S fs Q res fs' R e p => ?_⟩
  unfold aBoxN at e
  split at e
  · rename_i n d q
    obtain ⟨v, h1, h2⟩ := R.own i n d q
    refine ⟨_, h1, ?_⟩
    refine sb.bind R e p fun rs fs2 xs H2 S2 R2 r2 e2 p2 st2 sh2 => ?_
    cases e2
    exact p2.here R2 (.cons (show AvR X.K σ S2 _ (.box i) from h1) r2)
  · cases e
theorem fds_nil : FDs X J W [] dNil := ⟨_, pa_nil, fun σ H S fs Q res fs' R e p => by cases e; exact p.here R .nil⟩
theorem fds_cons {gs : M (List D)} (ha : FE X J W a f) (hr : FDs X J W es gs) (hs : starEach (a :: es) X.env = (false, eval a X.env) :: starEach es X.env := by rfl) : FDs X J W (a :: es) (dCons f gs) := by
  obtain ⟨ta, pa, sa⟩ := ha.d
  obtain ⟨tb, pb, sb⟩ := hr
  refine ⟨_, pa_cons pa pb hs, fun σ H S fs Q res fs' R e p => ?_⟩
  refine sa.bind R e p fun d fs1 x H1 S1 R1 r1 e1 p1 st1 sh1 => ?_
  refine sb.bind R1 e1 p1 fun rs fs2 xs H2 S2 R2 r2 e2 p2 st2 sh2 => ?_
  cases e2
  exact p2.here R2 (.cons (Rp.mono st2.grow r1) r2)

/-! ### a tuple, a list -/
def tTupF (t : TA) : TE := fun σ H Q => t σ H fun xs H1 => xs.length ≤ sizeLine ∧ ∀ p o, H1 p = none → o.dict = none → Q (.ref p) (upd H1 p (.frz o (.tup xs)))
theorem pe_tupF {t : TA} {x1} (h : PA X es t) : PE X (.Tuple es x1 pos) (tTupF t) := by
  refine ⟨fun pins s σ H Q I hq => ?_⟩
  refine wpAny_Tuple_spliced (thn (h.run pos pins s σ H _ I hq) fun us s1 ⟨xs, H1, I1, r, z, q⟩ => ⟨by rw [← r.length]; exact z, ?_⟩)
  have hf : H1 s1.heap.objs.size = none := I1.hok.fresh (Nat.le_refl _)
  have hg := Heap.get?_push_size s1.heap (o := ({ cls := .type "tuple", data := .seq us.toArray } : Obj)) rfl
  refine ⟨.ref s1.heap.objs.size, upd H1 s1.heap.objs.size (.frz { cls := .type "tuple", data := .seq us.toArray } (.tup xs)), I1.laid (t' := s1.toks) (fun b u e => Heap.get?_push_of_some _ e) (Nat.le_refl _) ?_, rfl, q _ _ hf rfl⟩
  exact ⟨hg, z, us, r, ⟨_, hg, rfl, _, rfl⟩⟩
def fTup (f : M (List D)) : M Rv := bnd f fun ds fs => if ds.length ≤ sizeLine then some (.inr (.val (.tuple ds)), fs) else none
def fLst (f : M (List D)) : M Rv := bnd f fun ds fs => if ds.length ≤ sizeLine then some (.inr (.fresh (.list ds)), fs) else none
theorem fe_tup {gs : M (List D)} {k : Nat} (ha : FDs X J W es gs) : FE X J W (.Tuple es k pos) (fTup gs) := by
  obtain ⟨ta, pa, sa⟩ := ha
  refine ⟨_, pe_tupF pa, fun σ H S fs Q res fs' R e p => ?_⟩
  refine sa.bind R e p fun ds fs1 xs H1 S1 R1 r1 e1 p1 st1 sh1 => ?_
  split at e1
  · rename_i hz
    cases e1
    exact ⟨by rw [Rps.length r1]; exact hz, fun l o hl hd => p1.toV.newT R1 r1 hl hd⟩
  · cases e1
theorem fe_lst {gs : M (List D)} (ha : FDs X J W es gs) : FE X J W (.List es pos) (fLst gs) := by
  obtain ⟨ta, pa, sa⟩ := ha
  refine ⟨_, pe_lst pa, fun σ H S fs Q res fs' R e p => ?_⟩
  refine sa.bind R e p fun ds fs1 xs H1 S1 R1 r1 e1 p1 st1 sh1 => ?_
  split at e1
  · rename_i hz
    cases e1
    exact ⟨by rw [Rps.length r1]; exact hz, fun l hl => p1.toV.newL R1 r1 hl⟩
  · cases e1
end

/-! ### what a def does -/
abbrev Fn := List Sl → Option ((Cls ⊕ (Bool × D)) × List Sl)
structure ArgR (K : PySem.W.Frag) (S H : Hp) (vs : List V) (as : List Sl) : Prop where
  len : vs.length = as.length
  dat : ∀ (i : Nat) (d : D), as[i]? = some (.dat d) → ∃ v, vs[i]? = some v ∧ Rp K S v d
  own : ∀ (i n : Nat) (d : D), as[i]? = some (.own n d) → n = i + 1 ∧ ∃ p, vs[i]? = some (.ref p) ∧ OwnAt K S H p d ∧ S p = none
  sep : ∀ (i j n m : Nat) (d e : D) (p : Addr), as[i]? = some (.own n d) → as[j]? = some (.own m e) → vs[i]? = some (.ref p) → vs[j]? = some (.ref p) → i = j
def Bx (vs : List V) (as : List Sl) (a : Addr) : Prop := ∃ (i n : Nat) (d : D), as[i]? = some (.own n d) ∧ vs[i]? = some (.ref a)
def OutR (K : PySem.W.Frag) (S H : Hp) (vs : List V) (as outs : List Sl) : Prop :=
  ∀ (i n : Nat) (d : D), outs[i]? = some (.own n d) → (∃ m e, as[i]? = some (.own m e)) ∧ ∃ p, vs[i]? = some (.ref p) ∧ OwnAt K S H p d ∧ S p = none
def RetR (K : PySem.W.Frag) (Hs S H : Hp) (v : V) : Bool → D → Prop
  | false, d => Rp K S v d
  | true, d => ∃ p, v = .ref p ∧ OwnAt K S H p d ∧ S p = none ∧ Hs p = none
def spF (K : PySem.W.Frag) (mg : Str → Option Value) (G : Fn) : Sp := fun vs H Q E => ∃ S as res outs, Same S H ∧ ArgR K S H vs as ∧ G as = some (res, outs) ∧
  ∀ H' S', Same S' H' → Stp (Bx vs as) (fun _ => False) H S H' S' → OutR K S' H' vs as outs → match res with
    | .inl c => ∀ C, mg c = some (.ref C) → E (.ref C) none H'
    | .inr (fr, d) => ∀ v, RetR K H S' H' v fr d → Q v H'

/-! ### a call -/
def resolve (fs : Fs) : Nat → List Av → Option (List Sl)
  | _, [] => some []
  | k, .dat d :: as => (resolve fs (k + 1) as).map fun r => .dat d :: r
  | k, .box i :: as => match fs[i]? with
    | some (.own _ d) => (resolve fs (k + 1) as).map fun r => .own (k + 1) d :: r
    | _ => none
def boxes : List Av → List Nat
  | [] => []
  | .dat _ :: as => boxes as
  | .box i :: as => i :: boxes as
def bxpos : Nat → List Av → Option (Nat × Nat)
  | _, [] => none
  | k, .dat _ :: as => bxpos (k + 1) as
  | k, .box i :: _ => some (k, i)
def wb (as : List Av) (outs : List Sl) (fs : Fs) : Fs := match bxpos 0 as with
  | none => fs
  | some (k, i) => match fs[i]?, outs[k]? with
    | some (.own n _), some (.own _ d) => fs.set i (.own n d)
    | _, _ => fs.set i .no
def fCall (G : Fn) (f : M (List Av)) : M Rv := bnd f fun as fs => match resolve fs 0 as with
  | none => none
  | some sl => if (boxes as).length ≤ 1 then match G sl with
      | none => none
      | some (.inl c, outs) => some (.inl c, wb as outs fs)
      | some (.inr (fr, d), outs) => some (.inr (bif fr then .fresh d else .val d), wb as outs fs)
    else none
theorem mem_boxes : ∀ {as : List Av} {j i : Nat}, as[j]? = some (.box i) → i ∈ boxes as
  | [], _, _, h => by simp at h
  | .dat _ :: as, 0, _, h => by simp at h
  | .dat _ :: as, j + 1, i, h => mem_boxes (as := as) (j := j) (by simpa using h)
  | .box b :: as, 0, i, h => by
    have e : b = i := by simpa using h
    subst e
    exact List.mem_cons_self
  | .box b :: as, j + 1, i, h => List.mem_cons_of_mem _ (mem_boxes (as := as) (j := j) (by simpa using h))
theorem one_box : ∀ {as : List Av} {i j a b : Nat}, (boxes as).length ≤ 1 → as[i]? = some (.box a) → as[j]? = some (.box b) → i = j
  | [], _, _, _, _, _, h, _ => by simp at h
  | .dat _ :: as, 0, _, _, _, _, h, _ => by simp at h
  | .dat _ :: as, _ + 1, 0, _, _, _, _, h => by simp at h
  | .dat _ :: as, i + 1, j + 1, a, b, hl, h1, h2 => by rw [one_box (as := as) (i := i) (j := j) hl (by simpa using h1) (by simpa using h2)]
  | .box c :: as, 0, 0, _, _, _, _, _ => rfl
  | .box c :: as, 0, j + 1, a, b, hl, _, h => by
    have m := mem_boxes (as := as) (j := j) (i := b) (by simpa using h)
    have : 0 < (boxes as).length := List.length_pos_of_mem m
    simp only [boxes, List.length_cons] at hl
    omega
  | .box c :: as, i + 1, 0, a, b, hl, h, _ => by
    have m := mem_boxes (as := as) (j := i) (i := a) (by simpa using h)
    have : 0 < (boxes as).length := List.length_pos_of_mem m
    simp only [boxes, List.length_cons] at hl
    omega
  | .box c :: as, i + 1, j + 1, a, b, hl, h1, h2 => by
    have hl' : (boxes as).length ≤ 1 := by simp only [boxes, List.length_cons] at hl; omega
    rw [one_box (as := as) (i := i) (j := j) hl' (by simpa using h1) (by simpa using h2)]
theorem bxpos_of : ∀ {as : List Av} {k j i : Nat}, (boxes as).length ≤ 1 → as[j]? = some (.box i) → bxpos k as = some (k + j, i)
  | [], _, _, _, _, h => by simp at h
  | .dat _ :: as, _, 0, _, _, h => by simp at h
  | .dat _ :: as, k, j + 1, i, hl, h => by
    have := bxpos_of (as := as) (k := k + 1) (j := j) (i := i) hl (by simpa using h)
    simp only [bxpos]
    rw [this]
    congr 2
    omega
  | .box b :: as, k, 0, i, hl, h => by
    have e : b = i := by simpa using h
    subst e
    rfl
  | .box b :: as, k, j + 1, i, hl, h => by
    have m := mem_boxes (as := as) (j := j) (i := i) (by simpa using h)
    have : 0 < (boxes as).length := List.length_pos_of_mem m
    simp only [boxes, List.length_cons] at hl
    omega
theorem of_bxpos : ∀ {as : List Av} {k p i : Nat}, bxpos k as = some (p, i) → ∃ j, p = k + j ∧ as[j]? = some (.box i)
  | [], _, _, _, h => by cases h
  | .dat _ :: as, k, p, i, h => by
    obtain ⟨j, e, q⟩ := of_bxpos (as := as) (k := k + 1) (show bxpos (k + 1) as = some (p, i) from h)
    exact ⟨j + 1, by omega, by simpa using q⟩
  | .box b :: as, k, p, i, h => by
    cases h
    exact ⟨0, rfl, rfl⟩
theorem resolve_len {fs : Fs} : ∀ {as : List Av} {k : Nat} {sl : List Sl}, resolve fs k as = some sl → sl.length = as.length
  | [], _, _, h => by cases h; rfl
  | .dat d :: as, k, sl, h => by
    obtain ⟨r, h1, rfl⟩ := Option.map_eq_some_iff.mp (show (resolve fs (k + 1) as).map _ = some sl from h)
    rw [List.length_cons, List.length_cons, resolve_len h1]
  | .box i :: as, k, sl, h => by
    simp only [resolve] at h
    split at h
    · obtain ⟨r, h1, rfl⟩ := Option.map_eq_some_iff.mp h
      rw [List.length_cons, List.length_cons, resolve_len h1]
    · cases h
theorem resolve_get {fs : Fs} : ∀ {as : List Av} {k : Nat} {sl : List Sl} {j : Nat} {s : Sl}, resolve fs k as = some sl → sl[j]? = some s →
    (∃ d, as[j]? = some (.dat d) ∧ s = .dat d) ∨ ∃ i n d, as[j]? = some (.box i) ∧ fs[i]? = some (.own n d) ∧ s = .own (k + j + 1) d
  | [], _, _, j, s, h, e => by cases h; simp at e
  | .dat d :: as, k, sl, j, s, h, e => by
    obtain ⟨r, h1, rfl⟩ := Option.map_eq_some_iff.mp (show (resolve fs (k + 1) as).map _ = some sl from h)
    cases j with
    | zero => exact .inl ⟨d, rfl, by simpa using e.symm⟩
    | succ j =>
      rcases resolve_get (j := j) h1 (by simpa using e) with ⟨d', q1, q2⟩ | ⟨i, n, d', q1, q2, q3⟩
      · exact .inl ⟨d', by simpa using q1, q2⟩
      · exact .inr ⟨i, n, d', by simpa using q1, q2, by rw [q3]; congr 1; omega⟩
  | .box i :: as, k, sl, j, s, h, e => by
    simp only [resolve] at h
    split at h
    · rename_i n d q
      obtain ⟨r, h1, rfl⟩ := Option.map_eq_some_iff.mp h
      cases j with
      | zero => exact .inr ⟨i, n, d, rfl, q, by simpa using e.symm⟩
      | succ j =>
        rcases resolve_get (j := j) h1 (by simpa using e) with ⟨d', q1, q2⟩ | ⟨i', n', d', q1, q2, q3⟩
        · exact .inl ⟨d', by simpa using q1, q2⟩
        · exact .inr ⟨i', n', d', by simpa using q1, q2, by rw [q3]; congr 1; omega⟩
    · cases h
theorem AvsR.length {K : PySem.W.Frag} {σ : St} {S : Hp} : ∀ {vs : List V} {as : List Av}, AvsR K σ S vs as → vs.length = as.length
  | _, _, .nil => rfl
  | _, _, .cons _ t => by rw [List.length_cons, List.length_cons, AvsR.length t]
theorem AvsR.get {K : PySem.W.Frag} {σ : St} {S : Hp} : ∀ {vs : List V} {as : List Av} {i : Nat} {a : Av}, AvsR K σ S vs as → as[i]? = some a → ∃ v, vs[i]? = some v ∧ AvR K σ S v a
  | _, _, _, _, .nil, e => by simp at e
  | _, _, 0, _, .cons r _, e => by simp at e; subst e; exact ⟨_, rfl, r⟩
  | _, _, i + 1, _, .cons _ t, e => by
    obtain ⟨v, h1, h2⟩ := AvsR.get (i := i) t (by simpa using e)
    exact ⟨v, by simpa using h1, h2⟩
section
variable {K : PySem.W.Frag} {J : Inf} {σ : St} {fs : Fs} {H S H' S' : Hp} {vs : List V} {as : List Av} {sl outs : List Sl}
theorem argR_of (R : Rel K J σ H S fs) (r : AvsR K σ S vs as) (e : resolve fs 0 as = some sl) (h1 : (boxes as).length ≤ 1) : ArgR K S H vs sl where
  len := by rw [r.length, resolve_len e]
  dat := fun i d q => by
    rcases resolve_get e q with ⟨d', q1, q2⟩ | ⟨i', n, d', q1, q2, q3⟩
    · cases q2
      exact r.get q1
    · cases q3
  own := fun i n d q => by
    rcases resolve_get e q with ⟨d', q1, q2⟩ | ⟨i', n', d', q1, q2, q3⟩
    · cases q2
    · cases q3
      obtain ⟨v, z1, z2⟩ := r.get q1
      have z2' : σ[i']? = some (some v) := z2
      obtain ⟨p, w1, w2, w3, _⟩ := R.own i' n' d q2
      rw [z2'] at w1
      cases w1
      exact ⟨by omega, p, z1, w2, w3⟩
  sep := fun i j n m d e' p q1 q2 _ _ => by
    rcases resolve_get e q1 with ⟨d', z1, z2⟩ | ⟨i', n', d', z1, z2, z3⟩
    · cases z2
    · rcases resolve_get e q2 with ⟨d', y1, y2⟩ | ⟨i'', n'', d'', y1, y2, y3⟩
      · cases y2
      · exact one_box h1 z1 y1
theorem bx_wn (r : AvsR K σ S vs as) (e : resolve fs 0 as = some sl) {a : Addr} (h : Bx vs sl a) : ∃ (k i n : Nat) (d : D), as[k]? = some (Av.box i) ∧ vs[k]? = some (V.ref a) ∧ fs[i]? = some (Sl.own n d) ∧ σ[i]? = some (some (V.ref a)) := by
  obtain ⟨k, n, d, q1, q2⟩ := h
  rcases resolve_get e q1 with ⟨d', z1, z2⟩ | ⟨i', n', d', z1, z2, z3⟩
  · cases z2
  · obtain ⟨v, w1, w2⟩ := r.get z1
    rw [q2] at w1
    cases w1
    exact ⟨k, i', n', d', z1, q2, z2, w2⟩
theorem after_call (R : Rel K J σ H S fs) (r : AvsR K σ S vs as) (e : resolve fs 0 as = some sl) (h1 : (boxes as).length ≤ 1) (sub : Same S' H') (st : Stp (Bx vs sl) (fun _ => False) H S H' S') (o : OutR K S' H' vs sl outs) :
    Rel K J σ H' S' (wb as outs fs) ∧ Stp (Wn σ fs) (Wz σ fs) H S H' S' ∧ Shr fs (wb as outs fs) := by
  have st' : Stp (Wn σ fs) (Wz σ fs) H S H' S' := st.weak (fun a h => let ⟨k, i, n, d, _, _, q3, q4⟩ := bx_wn r e h; ⟨i, n, d, q3, q4⟩) fun _ z => z.elim
  have sh : Shr fs (wb as outs fs) := by
    unfold wb
    split
    · exact Shr.refl _
    · rename_i k i q
      split
      · rename_i n d0 m d z1 z2
        exact Shr.set fun n' d' w => by cases w; exact ⟨_, z1⟩
      · exact Shr.set fun n' d' w => by cases w
  refine ⟨R.step st' sub ?_ (fun i d q => ?_) (fun i n d q => ?_) sh, st', sh⟩
  · unfold wb
    split
    · exact R.len
    · split <;> rw [List.length_set] <;> exact R.len
  · have q' : fs[i]? = some (.dat d) := by
      unfold wb at q
      split at q
      · exact q
      · rename_i k i' _
        by_cases hj : i' = i
        · subst hj
          exfalso
          by_cases hl : i' < fs.length
          · split at q <;> (rw [List.getElem?_set_self hl] at q; cases q)
          · split at q <;> (rw [List.getElem?_eq_none (by simpa using hl)] at q; cases q)
        · split at q <;> (rw [List.getElem?_set_ne hj] at q; exact q)
    obtain ⟨v, w1, w2⟩ := R.dat i d q'
    exact ⟨v, w1, w2.mono st.grow⟩
  · -- an owned slot: the box, or another one
    have other : fs[i]? = some (.own n d) → (∀ k : Nat, as[k]? ≠ some (Av.box i)) → ∃ p, σ[i]? = some (some (.ref p)) ∧ OwnAt K S' H' p d ∧ S' p = none := fun q hb => by
      obtain ⟨p, w1, w2, w3, _⟩ := R.own i n d q
      have nb : ¬ Bx vs sl p := fun z => by
        obtain ⟨k, i', n', d', y1, y2, y3, y4⟩ := bx_wn r e z
        have ei := R.sep i i' n n' d d' p q y3 w1 y4
        subst ei
        exact hb k y1
      refine ⟨p, w1, w2.mono st.grow fun u z => st.keep p u z nb, ?_⟩
      cases y : S' p with
      | none => rfl
      | some u =>
        rcases st.new p (by rw [y]; simp) with z | z | z
        · exact absurd w3 z
        · obtain ⟨u', z'⟩ := w2.live
          rw [z] at z'; cases z'
        · exact z.elim
    unfold wb at q
    split at q
    · rename_i hb
      refine other q fun k z => ?_
      rw [bxpos_of (k := 0) h1 z] at hb
      cases hb
    · rename_i k i' hb
      obtain ⟨j, hj, hbox⟩ := of_bxpos hb
      have ek : k = j := by omega
      subst ek
      by_cases hj : i' = i
      · subst hj
        by_cases hl : i' < fs.length
        · split at q
          · rename_i n0 d0 m d1 z1 z2
            rw [List.getElem?_set_self hl] at q
            cases q
            obtain ⟨_, p, y1, y2, y3⟩ := o k m d z2
            obtain ⟨v, w1, w2⟩ := r.get hbox
            rw [y1] at w1
            cases w1
            exact ⟨p, w2, y2, y3⟩
          · rw [List.getElem?_set_self hl] at q
            cases q
        · split at q <;> (rw [List.getElem?_eq_none (by simpa using hl)] at q; cases q)
      · have q' : fs[i]? = some (.own n d) := by
          split at q <;> (rw [List.getElem?_set_ne hj] at q; exact q)
        refine other q' fun k' z => ?_
        have := one_box h1 hbox z
        subst this
        rw [hbox] at z
        cases z
        exact hj rfl
end
section
variable {X : Cx} {J : Inf} {W : WX} {k : Nat} {fa : Addr} {fd : FuncData} {ps : List Str} {G : Fn} {x : Str} {p pos : Pos} {e : Expr} {es : List Expr} {fas : M (List Av)}
theorem sim_call {t : TA} (sa : Sim X.K J X.mg W t (rAv X.K) fas) : Sim X.K J X.mg W (tCallS (spF X.K X.mg G) (WE W) t) (rV X.K) (fCall G fas) := by
  intro σ H S fs Q res fs' R e p
  refine sa.bind R e p fun as fs1 vs H1 S1 R1 r1 e1 p1 st1 sh1 => ?_
  split at e1
  · cases e1
  · rename_i sl q
    split at e1
    · rename_i hb
      have fin : ∀ {res' : Cls ⊕ (Bool × D)} {outs : List Sl}, G sl = some (res', outs) → (∀ H' S', Rel X.K J σ H' S' (wb as outs fs1) → Stp (Wn σ fs1) (Wz σ fs1) H1 S1 H' S' → Shr fs1 (wb as outs fs1) → Stp (Bx vs sl) (fun _ => False) H1 S1 H' S' → match res' with
            | .inl c => ∀ C, X.mg c = some (.ref C) → W (.ref C) none σ H'
            | .inr (fr, d) => ∀ v, RetR X.K H1 S' H' v fr d → Q v H') → spF X.K X.mg G vs H1 Q (WE W σ) := fun {res' outs} g k =>
        ⟨S1, sl, res', outs, R1.sub, argR_of R1 r1 q hb, g, fun H' S' sub st o => by
          obtain ⟨R2, st2, sh2⟩ := after_call R1 r1 q hb sub st o
          exact k H' S' R2 st2 sh2 st⟩
      split at e1
      · cases e1
      · rename_i c outs g
        cases e1
        exact fin g fun H' S' R2 st2 sh2 _ => p1 H' S' R2 st2 sh2
      · rename_i fr d outs g
        cases e1
        refine fin g fun H' S' R2 st2 sh2 stb v r => p1 H' S' R2 st2 sh2 v ?_
        cases fr with
        | false => exact r
        | true =>
          obtain ⟨l, e1, e2, e3, e4⟩ := r
          exact ⟨l, e1, e2, e3, e4, fun z => by
            obtain ⟨o, z'⟩ := R1.wn_live (sh2.wn z)
            rw [e4] at z'; cases z'⟩
    · cases e1
/-- a def of the text that does G -/
abbrev FnS (P : Program) (w : World) (K : PySem.W.Frag) (mg : Str → Option Value) (base : Heap) (k : Nat) (fa : Addr) (fd : FuncData) (ps : List Str) (G : Fn) : Prop := FnOk P w K mg base (L2.CX P w) k fa fd ps (spF K mg G)
theorem fe_call (F : FnS X.prog X.w X.K X.mg X.base k fa fd ps G) (hr : Room k X.A) (hg : Gl X x) (hm : X.mg x = some (.ref fa)) (hk : PySem.W.keepIn X.K (.ref fa) = true) (hb : Binds X.K fd ps []) (tk : Takes X W) (ha : FAs X J W (e :: es) fas)
    (hdb : (x == ("__debug__" : Str)) = false := by decide) (he : starEach (e :: es) X.env = (false, eval e X.env) :: starEach es X.env := by rfl) (hpl : (backTo pos (starEach es X.env)).any (·.1) = false := by rfl) :
    FE X J W (.Call (.Name x p) (e :: es) [] pos) (fCall G fas) := by
  obtain ⟨t, pa, sa⟩ := ha
  exact ⟨_, pe_callS F hr hg hm hk hb (fun σ => passAt tk σ) pa hdb he hpl, sim_call sa⟩
end

/-! ### statements -/
inductive Fl where
  | nx
  | bk
  | ct
  | ret (fr : Bool) (d : D)
  | ex (c : Cls)
abbrev SM := Fs → Option (Fl × Fs)
def RetJ (K : PySem.W.Frag) (J : Inf) (S H : Hp) (v : V) : Bool → D → Prop
  | false, d => Rp K S v d
  | true, d => ∃ p, v = .ref p ∧ OwnAt K S H p d ∧ S p = none ∧ J.H0 p = none
def PostS (K : PySem.W.Frag) (J : Inf) (mg : Str → Option Value) (W : WX) (D : Ends) (S : Hp) (r : Fl) (fs' : Fs) : Prop :=
  ∀ σ' H' S', Rel K J σ' H' S' fs' → Same S S' → match r with
    | .nx => D.nx σ' H'
    | .bk => D.bk σ' H'
    | .ct => D.ct σ' H'
    | .ret fr d => ∀ v, RetJ K J S' H' v fr d → D.rt v H'
    | .ex c => ∀ C, mg c = some (.ref C) → W (.ref C) none σ' H'
def SimS (K : PySem.W.Frag) (J : Inf) (mg : Str → Option Value) (W : WX) (t : TS) (g : SM) : Prop :=
  ∀ (σ : St) (H S : Hp) (fs : Fs) (D : Ends) (r : Fl) (fs' : Fs), Rel K J σ H S fs → g fs = some (r, fs') → PostS K J mg W D S r fs' → t D σ H
def FS (X : Cx) (J : Inf) (W : WX) (st : Stmt) (g : SM) : Prop := ∃ t, PS X st t ∧ SimS X.K J X.mg W t g
def FSs (X : Cx) (J : Inf) (W : WX) (st : List Stmt) (g : SM) : Prop := ∃ t, PSs X st t ∧ SimS X.K J X.mg W t g
theorem PostS.next {K : PySem.W.Frag} {J : Inf} {mg : Str → Option Value} {W : WX} {D : Ends} {S S1 : Hp} {r : Fl} {fs' : Fs} (p : PostS K J mg W D S r fs') (h : Same S S1) : PostS K J mg W D S1 r fs' := fun σ' H' S' R g => p σ' H' S' R (h.trans g)
/-- from an expression to a statement -/
def bndS {α : Type} (f : M α) (g : α → SM) : SM := fun fs => match f fs with
  | none => none
  | some (.inl c, fs1) => some (.ex c, fs1)
  | some (.inr a, fs1) => g a fs1
section
variable {X : Cx} {J : Inf} {W : WX} {st : Stmt} {rest : List Stmt} {g h : SM} {e : Expr} {f : M Rv} {pos : Pos}
theorem Sim.bindS {β α : Type} {K : PySem.W.Frag} {mg : Str → Option Value} {σ : St} {fs fs' : Fs} {H S : Hp} {t : St → Hp → (β → Hp → Prop) → Prop} {R : RT β α} {f : M α} {g : α → SM} {Q : β → Hp → Prop} {D : Ends} {r : Fl}
    (h : Sim K J mg W t R f) (rel : Rel K J σ H S fs) (e : bndS f g fs = some (r, fs')) (post : PostS K J mg W D S r fs')
    (k : ∀ a fs1 b H1 S1, Rel K J σ H1 S1 fs1 → R σ fs1 H H1 S1 b a → g a fs1 = some (r, fs') → PostS K J mg W D S1 r fs' → Stp (Wn σ fs) (Wz σ fs) H S H1 S1 → Shr fs fs1 → Q b H1) : t σ H Q := by
  unfold bndS at e
  split at e
  · cases e
  · rename_i c fs1 q
    cases e
    exact h σ H S fs Q _ _ rel q fun H' S' R2 st sh => post σ H' S' R2 st.grow
  · rename_i a fs1 q
    exact h σ H S fs Q _ fs1 rel q fun H' S' R2 st sh b r => k a fs1 b H' S' R2 r e (post.next st.grow) st sh
def sNil : SM := fun fs => some (.nx, fs)
def sCons (g h : SM) : SM := fun fs => match g fs with
  | some (.nx, fs1) => h fs1
  | r => r
theorem fss_nil : FSs X J W [] sNil := ⟨_, pss_nil, fun σ H S fs D r fs' R e p => by cases e; exact p σ H S R (Same.refl _)⟩
theorem fss_one (h1 : FS X J W st g) : FSs X J W [st] g := let ⟨t, p, s⟩ := h1; ⟨t, pss_one p, s⟩
theorem fss_cons (h1 : FS X J W st g) (h2 : FSs X J W rest h) : FSs X J W (st :: rest) (sCons g h) := by
  obtain ⟨t, pt, s1⟩ := h1
  obtain ⟨u, pu, s2⟩ := h2
  refine ⟨_, pss_cons pt pu, fun σ H S fs D r fs' R e p => ?_⟩
  unfold sCons at e
  split at e
  · rename_i fs1 q
    exact s1 σ H S fs _ _ _ R q fun σ' H' S' R' gr => s2 σ' H' S' fs1 D r fs' R' e (p.next gr)
  · rename_i hne
    refine s1 σ H S fs _ _ _ R e fun σ' H' S' R' gr => ?_
    have z := p σ' H' S' R' gr
    cases r with
    | nx => exact absurd e (hne fs')
    | bk => exact z
    | ct => exact z
    | ret fr d => exact z
    | ex c => exact z
theorem fs_pass : FS X J W (.Pass pos) sNil := ⟨_, ps_pass, fun σ H S fs D r fs' R e p => by cases e; exact p σ H S R (Same.refl _)⟩
def sBrk : SM := fun fs => some (.bk, fs)
def sCnt : SM := fun fs => some (.ct, fs)
def sRetN : SM := fun fs => some (.ret false .none, fs)
theorem fs_break : FS X J W (.Break pos) sBrk := ⟨_, ps_break, fun σ H S fs D r fs' R e p => by cases e; exact p σ H S R (Same.refl _)⟩
theorem fs_continue : FS X J W (.Continue pos) sCnt := ⟨_, ps_continue, fun σ H S fs D r fs' R e p => by cases e; exact p σ H S R (Same.refl _)⟩
theorem fs_never : FS X J W st (fun _ => none) := ⟨_, ps_never, fun σ H S fs D r fs' R e p => by cases e⟩
/-! an expression alone; return -/
def sDrop (f : M Rv) : SM := bndS f fun _ fs => some (.nx, fs)
theorem fs_expr (he : FE X J W e f) (hs : swapsWith e none pos.line X.env = pure false := by rfl) : FS X J W (.Expr e pos) (sDrop f) := by
  obtain ⟨t, p, s⟩ := he
  refine ⟨_, ps_expr p hs, fun σ H S fs D r fs' R e p => ?_⟩
  refine s.bindS R e p fun rv fs1 v H1 S1 R1 r1 e1 p1 _ _ => ?_
  cases e1
  exact p1 σ H1 S1 R1 (Same.refl _)
/-- the value handed back: an own list is given away -/
def sRet (f : M Rv) : SM := bndS f fun rv fs => match rv with
  | .val d => some (.ret false d, fs)
  | .fresh d => some (.ret true d, fs)
  | .slot i => match fs[i]? with
    | some (.own 0 d) => some (.ret true d, fs.set i .no)
    | some (.dat d) => some (.ret false d, fs)
    | _ => none
theorem Rel.lose {K : PySem.W.Frag} {σ : St} {H S : Hp} {fs : Fs} (R : Rel K J σ H S fs) (i : Nat) : Rel K J σ H S (fs.set i .no) where
  sub := R.sub
  len := by rw [List.length_set]; exact R.len
  dat := fun j d q => by
    by_cases hj : i = j
    · subst hj
      by_cases hl : i < fs.length
      · rw [List.getElem?_set_self hl] at q; cases q
      · rw [List.getElem?_eq_none (by simpa using hl)] at q; cases q
    · rw [List.getElem?_set_ne hj] at q; exact R.dat j d q
  own := fun j n d q => by
    by_cases hj : i = j
    · subst hj
      by_cases hl : i < fs.length
      · rw [List.getElem?_set_self hl] at q; cases q
      · rw [List.getElem?_eq_none (by simpa using hl)] at q; cases q
    · rw [List.getElem?_set_ne hj] at q; exact R.own j n d q
  sep := fun j k n m d e p q1 q2 => by
    have z : ∀ {a b : Nat} {d : D}, (fs.set i .no)[a]? = some (.own b d) → fs[a]? = some (.own b d) := fun {a b d} q => by
      by_cases hj : i = a
      · subst hj
        by_cases hl : i < fs.length
        · rw [List.getElem?_set_self hl] at q; cases q
        · rw [List.getElem?_eq_none (by simpa using hl)] at q; cases q
      · rw [List.getElem?_set_ne hj] at q; exact q
    exact R.sep j k n m d e p (z q1) (z q2)
  keep0 := R.keep0
  grow0 := R.grow0
  new0 := R.new0
  live0 := R.live0
  bwl := R.bwl
theorem fs_ret (he : FE X J W e f) : FS X J W (.Return (some e) pos) (sRet f) := by
  obtain ⟨t, p, s⟩ := he
  refine ⟨_, ps_ret p, fun σ H S fs D r fs' R e p => ?_⟩
  refine s.bindS R e p fun rv fs1 v H1 S1 R1 r1 e1 p1 st1 sh1 => ?_
  have old : ∀ l, H l = none → J.H0 l = none := fun l z => by
    cases q : J.H0 l with
    | none => rfl
    | some o => exact absurd z (R.live0 l (by rw [q]; simp))
  cases rv with
  | val d =>
    cases e1
    exact p1 σ H1 S1 R1 (Same.refl _) v r1
  | fresh d =>
    cases e1
    obtain ⟨l, e1, e2, e3, e4, _⟩ := r1
    exact p1 σ H1 S1 R1 (Same.refl _) v ⟨l, e1, e2, e3, old l e4⟩
  | slot i =>
    have r1' : σ[i]? = some (some v) := r1
    dsimp only at e1
    split at e1
    · rename_i d q
      cases e1
      obtain ⟨l, w1, w2, w3, w4⟩ := R1.own i 0 d q
      rw [r1'] at w1
      cases w1
      exact p1 σ H1 S1 (R1.lose i) (Same.refl _) _ ⟨l, rfl, w2, w3, w4⟩
    · rename_i d q
      cases e1
      obtain ⟨v', w1, w2⟩ := R1.dat i d q
      rw [r1'] at w1
      cases w1
      exact p1 σ H1 S1 R1 (Same.refl _) v w2
    · cases e1
theorem fs_retN : FS X J W (.Return none pos) sRetN :=
  ⟨_, ps_retN, fun σ H S fs D r fs' R e p => by cases e; exact p σ H S R (Same.refl _) _ Rp.non⟩
/-! if -/
def sIf (c : M Bool) (g h : SM) : SM := bndS c fun b => match b with
  | true => g
  | false => h
theorem fs_if {c : Expr} {a b : List Stmt} {fc : M Bool} (hc : FT X J W c fc) (ha : FSs X J W a g) (hb : FSs X J W b h) : FS X J W (.If c a b pos) (sIf fc g h) := by
  obtain ⟨tc, pc, sc⟩ := hc
  obtain ⟨ta, pa, sa⟩ := ha
  obtain ⟨tb, pb, sb⟩ := hb
  refine ⟨_, ps_if pc pa pb, fun σ H S fs D r fs' R e p => ?_⟩
  refine sc.bindS R e p fun k fs1 k' H1 S1 R1 r1 e1 p1 _ _ => ?_
  cases r1
  cases k with
  | true =>
    rw [if_pos rfl]
    exact sa σ H1 S1 fs1 D r fs' R1 e1 p1
  | false =>
    rw [if_neg Bool.false_ne_true]
    exact sb σ H1 S1 fs1 D r fs' R1 e1 p1
/-! a name is stored -/
theorem Rel.putD {K : PySem.W.Frag} {σ : St} {H S : Hp} {fs : Fs} (R : Rel K J σ H S fs) (i : Nat) {v : V} {d : D} (r : Rp K S v d) : Rel K J (σ.set i (some v)) H S (fs.set i (.dat d)) where
  sub := R.sub
  len := by rw [List.length_set, List.length_set]; exact R.len
  dat := fun j d' q => by
    by_cases hj : i = j
    · subst hj
      by_cases hl : i < fs.length
      · rw [List.getElem?_set_self hl] at q
        cases q
        exact ⟨v, by rw [List.getElem?_set_self (by rw [R.len]; exact hl)], r⟩
      · rw [List.getElem?_eq_none (by simpa using hl)] at q; cases q
    · rw [List.getElem?_set_ne hj] at q
      rw [List.getElem?_set_ne hj]
      exact R.dat j d' q
  own := fun j n d' q => by
    by_cases hj : i = j
    · subst hj
      by_cases hl : i < fs.length
      · rw [List.getElem?_set_self hl] at q; cases q
      · rw [List.getElem?_eq_none (by simpa using hl)] at q; cases q
    · rw [List.getElem?_set_ne hj] at q
      rw [List.getElem?_set_ne hj]
      exact R.own j n d' q
  sep := fun j k n m d' e p q1 q2 z1 z2 => by
    have z : ∀ {a b : Nat} {d' : D}, (fs.set i (.dat d))[a]? = some (.own b d') → i ≠ a := fun {a b d'} q hj => by
      subst hj
      by_cases hl : i < fs.length
      · rw [List.getElem?_set_self hl] at q; cases q
      · rw [List.getElem?_eq_none (by simpa using hl)] at q; cases q
    have a1 := z q1
    have a2 := z q2
    rw [List.getElem?_set_ne a1] at q1 z1
    rw [List.getElem?_set_ne a2] at q2 z2
    exact R.sep j k n m d' e p q1 q2 z1 z2
  keep0 := R.keep0
  grow0 := R.grow0
  new0 := R.new0
  live0 := R.live0
  bwl := R.bwl
theorem Rel.putO {K : PySem.W.Frag} {σ : St} {H S : Hp} {fs : Fs} (R : Rel K J σ H S fs) (i : Nat) {l : Addr} {d : D} (r : OwnAt K S H l d) (hs : S l = none) (hn : J.H0 l = none) (hw : ¬ Wn σ fs l) : Rel K J (σ.set i (some (.ref l))) H S (fs.set i (.own 0 d)) where
  sub := R.sub
  len := by rw [List.length_set, List.length_set]; exact R.len
  dat := fun j d' q => by
    by_cases hj : i = j
    · subst hj
      by_cases hl : i < fs.length
      · rw [List.getElem?_set_self hl] at q; cases q
      · rw [List.getElem?_eq_none (by simpa using hl)] at q; cases q
    · rw [List.getElem?_set_ne hj] at q
      rw [List.getElem?_set_ne hj]
      exact R.dat j d' q
  own := fun j n d' q => by
    by_cases hj : i = j
    · subst hj
      by_cases hl : i < fs.length
      · rw [List.getElem?_set_self hl] at q
        cases q
        exact ⟨l, by rw [List.getElem?_set_self (by rw [R.len]; exact hl)], r, hs, hn⟩
      · rw [List.getElem?_eq_none (by simpa using hl)] at q; cases q
    · rw [List.getElem?_set_ne hj] at q
      rw [List.getElem?_set_ne hj]
      exact R.own j n d' q
  sep := fun j k n m d' e p q1 q2 z1 z2 => by
    have at_i : ∀ {b : Nat} {d' : D}, (fs.set i (.own 0 d))[i]? = some (.own b d') → i < σ.length := fun {b d'} q => by
      by_cases hl : i < fs.length
      · rw [R.len]; exact hl
      · rw [List.getElem?_eq_none (by simpa using hl)] at q; cases q
    by_cases h1 : i = j
    · by_cases h2 : i = k
      · rw [← h1, ← h2]
      · exfalso
        subst h1
        rw [List.getElem?_set_self (at_i q1)] at z1
        cases z1
        rw [List.getElem?_set_ne h2] at q2 z2
        exact hw ⟨k, m, e, q2, z2⟩
    · by_cases h2 : i = k
      · exfalso
        subst h2
        rw [List.getElem?_set_self (at_i q2)] at z2
        cases z2
        rw [List.getElem?_set_ne h1] at q1 z1
        exact hw ⟨j, n, d', q1, z1⟩
      · rw [List.getElem?_set_ne h1] at q1 z1
        rw [List.getElem?_set_ne h2] at q2 z2
        exact R.sep j k n m d' e p q1 q2 z1 z2
  keep0 := R.keep0
  grow0 := R.grow0
  new0 := R.new0
  live0 := R.live0
  bwl := R.bwl
def sSet (i : Nat) (f : M Rv) : SM := bndS f fun rv fs => match rv with
  | .val d => some (.nx, fs.set i (.dat d))
  | .fresh d => some (.nx, fs.set i (.own 0 d))
  | .slot j => match (Rv.slot j).fz fs with
    | some (d, fs1) => some (.nx, fs1.set i (.dat d))
    | none => none
theorem sim_set {t : TE} {i : Nat} (s : Sim X.K J X.mg W t (rV X.K) f) : SimS X.K J X.mg W (tAsg t (gName i)) (sSet i f) := by
  intro σ H S fs D r fs' R e p
  refine s.bindS R e p fun rv fs1 v H1 S1 R1 r1 e1 p1 st1 sh1 => ?_
  show D.nx (σ.set i (some v)) H1
  cases rv with
  | val d =>
    cases e1
    exact p1 _ H1 S1 (R1.putD i r1) (Same.refl _)
  | fresh d =>
    cases e1
    obtain ⟨l, rfl, e2, e3, e4, e5⟩ := r1
    refine p1 _ H1 S1 (R1.putO i e2 e3 ?_ e5) (Same.refl _)
    cases q : J.H0 l with
    | none => rfl
    | some o => exact absurd e4 (R.live0 l (by rw [q]; simp))
  | slot j =>
    dsimp only at e1
    split at e1
    · rename_i d fs2 q
      cases e1
      obtain ⟨S2, R3, st3, sh3, r3, st4⟩ := RvR.fz R1 r1 q R st1 sh1
      exact p1 _ H1 S2 (R3.putD i r3) st4.grow
    · cases e1
theorem fs_set {i : Nat} {x : Str} {pos' : Pos} (hN : X.N.Nodup) (he : FE X J W e f) (hi : X.N[i]? = some x := by rfl) (hx : Loc X.env.scope x := by first | exact Or.inl rfl | exact Or.inr rfl) (hs : swapsWith e (some (.Name x pos')) pos.line X.env = pure false := by rfl) (hf : X.fn x = true ∨ X.env.scope.names.lookup x = some .local := by first | exact .inl rfl | exact .inr rfl | assumption) :
    FS X J W (.Assign [.Name x pos'] e pos) (sSet i f) := by
  obtain ⟨t, p, s⟩ := he
  exact ⟨_, ps_set hN hi hx p hs hf, sim_set s⟩
end
end Fx

namespace Fx
open PySem PySem.Spec PyProof.Rows L2
/-! ### targets: an item comes as data (st), or as a pair that is taken apart at once -/
def RpK (st : Bool) (K : PySem.W.Frag) (S : Hp) (v : V) (d : D) : Prop := match st with
  | true => Rp K S v d
  | false => ∃ a xs ds, v = .ref a ∧ d = .tuple ds ∧ SqT K S a xs ∧ Rps K S xs ds
/-- off the slots `is` the same -/
def Off (is : List Nat) (σ σ' : St) : Prop := σ'.length = σ.length ∧ ∀ j, j ∉ is → σ'[j]? = σ[j]?
theorem Off.refl {is : List Nat} {σ : St} : Off is σ σ := ⟨rfl, fun _ _ => rfl⟩
theorem Off.trans {is js : List Nat} {a b c : St} (x : Off is a b) (y : Off js b c) : Off (is ++ js) a c :=
  ⟨y.1.trans x.1, fun j h => by rw [List.mem_append, not_or] at h; rw [y.2 j h.2, x.2 j h.1]⟩
theorem Off.set {i : Nat} {σ : St} {v : Option V} : Off [i] σ (σ.set i v) := ⟨List.length_set, fun j h => List.getElem?_set_ne (by simpa using fun e => h (by simp [e]))⟩
def SimG (K : PySem.W.Frag) (J : Inf) (st : Bool) (t : TG) (is : List Nat) (g : D → Fs → Option Fs) : Prop :=
  ∀ (σ : St) (H S : Hp) (fs : Fs) (v : V) (d : D) (fs' : Fs) (Q : St → Hp → Prop), Rel K J σ H S fs → RpK st K S v d → g d fs = some fs' → (∀ σ', Rel K J σ' H S fs' → Off is σ σ' → Shr fs fs' → Q σ' H) → t v σ H Q
def FG (X : Cx) (J : Inf) (st : Bool) (tg : Expr) (is : List Nat) (g : D → Fs → Option Fs) : Prop := ∃ t, PG X tg t ∧ SimG X.K J st t is g
def SimGs (K : PySem.W.Frag) (J : Inf) (t : TGs) (is : List Nat) (g : List D → Fs → Option Fs) : Prop :=
  ∀ (σ : St) (H S : Hp) (fs : Fs) (vs : List V) (ds : List D) (fs' : Fs) (Q : St → Hp → Prop), Rel K J σ H S fs → Rps K S vs ds → g ds fs = some fs' → (∀ σ', Rel K J σ' H S fs' → Off is σ σ' → Shr fs fs' → Q σ' H) → t vs σ H Q
def FGs (X : Cx) (J : Inf) (tgs : List Expr) (is : List Nat) (g : List D → Fs → Option Fs) : Prop := ∃ t, PGs X tgs t ∧ SimGs X.K J t is g
def kName (i : Nat) : D → Fs → Option Fs := fun d fs => some (fs.set i (.dat d))
def kNil : List D → Fs → Option Fs := fun ds fs => match ds with
  | [] => some fs
  | _ => none
def kCons (g : D → Fs → Option Fs) (h : List D → Fs → Option Fs) : List D → Fs → Option Fs := fun ds fs => match ds with
  | d :: r => match g d fs with
    | some fs1 => h r fs1
    | none => none
  | [] => none
def kTup (n : Nat) (h : List D → Fs → Option Fs) : D → Fs → Option Fs := fun d fs => match d with
  | .tuple ds => if ds.length = n then h ds fs else none
  | _ => none
section
variable {X : Cx} {J : Inf} {W : WX} {g : D → Fs → Option Fs} {h : List D → Fs → Option Fs} {pos : Pos}
theorem fg_name {i : Nat} {x : Str} (hN : X.N.Nodup) (hi : X.N[i]? = some x := by rfl) (hx : Loc X.env.scope x := by first | exact Or.inl rfl | exact Or.inr rfl) (hf : X.fn x = true ∨ X.env.scope.names.lookup x = some .local := by first | exact .inl rfl | exact .inr rfl | assumption) : FG X J true (.Name x pos) [i] (kName i) :=
  ⟨_, pg_name hN hi hx hf, fun σ H S fs v d fs' Q R r e q => by cases e; exact q _ (R.putD i r) Off.set (Shr.set fun n d' z => by cases z)⟩
theorem fgs_nil : FGs X J [] [] kNil := ⟨_, pgs_nil, fun σ H S fs vs ds fs' Q R r e q => by
  cases ds with
  | nil => cases r; cases e; exact ⟨rfl, q σ R Off.refl (Shr.refl _)⟩
  | cons d ds => cases e⟩
theorem fgs_cons {e : Expr} {es : List Expr} {is js : List Nat} (h1 : FG X J true e is g) (h2 : FGs X J es js h) (hs : (assignEach (e :: es) X.env).map (·.2) = assign e X.env :: (assignEach es X.env).map (·.2) := by rfl) : FGs X J (e :: es) (is ++ js) (kCons g h) := by
  obtain ⟨t, p, s⟩ := h1
  obtain ⟨u, p', s'⟩ := h2
  refine ⟨_, pgs_cons p p' hs, fun σ H S fs vs ds fs' Q R r e q => ?_⟩
  cases r with
  | nil => cases e
  | cons r1 r2 =>
    simp only [kCons] at e
    split at e
    · rename_i fs1 q1
      exact ⟨_, _, rfl, s σ H S fs _ _ fs1 _ R r1 q1 fun σ1 R1 o1 h1 => s' σ1 H S fs1 _ _ fs' Q R1 r2 e fun σ2 R2 o2 h2 => q σ2 R2 (o1.trans o2) (h1.trans h2)⟩
    · cases e
theorem fg_tup {es : List Expr} {k n : Nat} {st : Bool} {is : List Nat} (hc : X.calm = true) (h1 : FGs X J es is h) (hn : (assignEach es X.env).length = n := by rfl) (hst : (assignEach es X.env).findIdx? (·.1) = none := by rfl) : FG X J st (.Tuple es k pos) is (kTup n h) := by
  obtain ⟨t, p, s⟩ := h1
  refine ⟨_, pg_tup hc p hn hst, fun σ H S fs v d fs' Q R r e q => ?_⟩
  have key : ∀ {a : Addr} {xs : List V} {ds : List D}, v = .ref a → d = .tuple ds → SqT X.K S a xs → Rps X.K S xs ds → gTup X.K n t v σ H Q := fun {a xs ds} e1 e2 q1 q2 => by
    subst e1 e2
    simp only [kTup] at e
    split at e
    · rename_i hl
      exact ⟨a, xs, rfl, Same.seqT R.sub q1, by rw [q2.length]; exact hl, s σ H S fs xs ds fs' Q R q2 e q⟩
    · cases e
  cases st with
  | true =>
    have r' : Rp X.K S v d := r
    cases r' with
    | tup q1 _ q2 => exact key rfl rfl q1 q2
    | _ => exact absurd e (by simp [kTup])
  | false =>
    obtain ⟨a, xs, ds, e1, e2, q1, q2⟩ := r
    exact key e1 e2 q1 q2
/-- (a, b, ..) = e -/
def sUnp (f : M D) (g : D → Fs → Option Fs) : SM := bndS f fun d fs => match g d fs with
  | some fs1 => some (.nx, fs1)
  | none => none
theorem fs_unp {tg e : Expr} {f : M Rv} {is : List Nat} (he : FE X J W e f) (hg : FG X J true tg is g) (hs : swapsWithSole [tg] e pos.line X.env = pure false := by rfl) (hw : swappedStores [tg] e X.env = pure none := by rfl)
    (h1 : (assignEach [tg] X.env).map (·.2) = [assign tg X.env] := by rfl) : FS X J W (.Assign [tg] e pos) (sUnp (fD f) g) := by
  obtain ⟨t, p, s⟩ := he.d
  obtain ⟨u, p', s'⟩ := hg
  refine ⟨_, ps_asg p p' hs hw h1, fun σ H S fs D r fs' R e p => ?_⟩
  refine s.bindS R e p fun d fs1 v H1 S1 R1 r1 e1 p1 _ _ => ?_
  try dsimp only at e1
  split at e1
  · rename_i fs2 q
    cases e1
    exact s' σ H1 S1 fs1 v d _ _ R1 r1 q fun σ' R' _ _ => p1 σ' H1 S1 R' (Same.refl _)
  · cases e1
/-- a, b = x, y -/
def sPar (i j : Nat) (f : M (List D)) : SM := bndS f fun ds fs => match ds with
  | [d, e] => some (.nx, (fs.set i (.dat d)).set j (.dat e))
  | _ => none
theorem fs_par {i j : Nat} {x y : Str} {a b : Expr} {f : M (List D)} {px py pt : Pos} {kt k2 pt2} (hc : X.calm = true) (hN : X.N.Nodup) (hij : i ≠ j) (ha : FDs X J W [a, b] f) (hi : X.N[i]? = some x := by rfl) (hj : X.N[j]? = some y := by rfl)
    (hx : X.env.scope.names.lookup x = some .local := by rfl) (hy : X.env.scope.names.lookup y = some .local := by rfl)
    (hw : swappedStores [.Tuple [.Name x px, .Name y py] kt pt] (.Tuple [a, b] k2 pt2) X.env = pure (some [x, y]) := by rfl)
    (hs : swapsWithSole [.Tuple [.Name x px, .Name y py] kt pt] (.Tuple [a, b] k2 pt2) pos.line X.env = pure false := by rfl) :
    FS X J W (.Assign [.Tuple [.Name x px, .Name y py] kt pt] (.Tuple [a, b] k2 pt2) pos) (sPar i j f) := by
  obtain ⟨t, p, s⟩ := ha
  refine ⟨_, ps_par hc hN hi hj hij hx hy p hw hs, fun σ H S fs D r fs' R e p => ?_⟩
  refine s.bindS R e p fun ds fs1 vs H1 S1 R1 r1 e1 p1 _ _ => ?_
  try dsimp only at e1
  split at e1
  · cases e1
    cases r1 with
    | cons q1 r1 =>
      cases r1 with
      | cons q2 r1 =>
        cases r1
        exact ⟨_, _, rfl, p1 _ H1 S1 ((R1.putD i q1).putD j q2) (Same.refl _)⟩
  · cases e1
end

/-! ### what is walked -/
structure ItOk (st : Bool) (K : PySem.W.Frag) (S : Hp) (it : It) (ds : List D) : Prop where
  go : ∀ (i : Nat) (H S' : Hp), i < ds.length → Same S S' → Same S' H → it.go i H
  yld : ∀ (i : Nat) (H S' : Hp) (x : V) (H' : Hp), i < ds.length → Same S S' → Same S' H → it.yld i H x H' → ∃ S'' d, ds[i]? = some d ∧ Stp (fun _ => False) (fun _ => False) H S' H' S'' ∧ Same S'' H' ∧ RpK st K S'' x d
  stop : ∀ (H S' : Hp), Same S S' → Same S' H → it.stop ds.length H
theorem ItOk.mono {st : Bool} {K : PySem.W.Frag} {S S1 : Hp} {it : It} {ds : List D} (h : ItOk st K S it ds) (s : Same S S1) : ItOk st K S1 it ds :=
  ⟨fun i H S' a b c => h.go i H S' a (s.trans b) c, fun i H S' x H' a b c d => h.yld i H S' x H' a (s.trans b) c d, fun H S' b c => h.stop H S' (s.trans b) c⟩
abbrev rI (st : Bool) (K : PySem.W.Frag) : RT It (List D) := fun _ _ _ _ S it ds => ItOk st K S it ds
instance {st : Bool} {K : PySem.W.Frag} : Early (rI st K) := ⟨fun _ r => r⟩
def FI (X : Cx) (J : Inf) (W : WX) (st : Bool) (tg iter : Expr) (f : M (List D)) : Prop := ∃ wi, PI X tg iter wi ∧ Sim X.K J X.mg W wi (rI st X.K) f
def asL : D → M (List D) := fun d fs => match d with
  | .list ds => some (.inr ds, fs)
  | _ => none
def asT : D → M (List D) := fun d fs => match d with
  | .tuple ds => some (.inr ds, fs)
  | _ => none
section
variable {X : Cx} {J : Inf} {W : WX} {tg e e2 : Expr} {f g : M Rv} {pos p : Pos}
theorem it_list {K : PySem.W.Frag} {S : Hp} {a : Addr} {xs : List V} {ds : List D} (h : SqL K S a xs) (r : Rps K S xs ds) (inj : ∀ H ys, Same S H → SqL K H a ys → ys = xs) : ItOk true K S (Itl K a) ds where
  go := fun i H S' hi s1 s2 => ⟨xs, xs[i]'(by rw [r.length]; exact hi), L2.Same.seq (s1.trans s2) h, by simp⟩
  yld := fun i H S' x H' hi s1 s2 y => by
    obtain ⟨e, y⟩ := y
    subst e
    have q := y xs (L2.Same.seq (s1.trans s2) h)
    obtain ⟨d, h1, h2⟩ := r.get' q
    exact ⟨S', d, h1, Stp.refl, s2, h2.mono s1⟩
  stop := fun H S' s1 s2 => ⟨xs, L2.Same.seq (s1.trans s2) h, by rw [r.length]; exact Nat.le_refl _⟩
theorem it_list' {K : PySem.W.Frag} {S : Hp} {a : Addr} {xs : List V} {ds : List D} (h : SqL K S a xs) (r : Rps K S xs ds) : ItOk true K S (Itl K a) ds where
  go := fun i H S' hi s1 s2 => ⟨xs, xs[i]'(by rw [r.length]; exact hi), L2.Same.seq (s1.trans s2) h, by simp⟩
  yld := fun i H S' x H' hi s1 s2 y => by
    obtain ⟨e, y⟩ := y
    subst e
    have q := y xs (L2.Same.seq (s1.trans s2) h)
    obtain ⟨d, h1, h2⟩ := r.get' q
    exact ⟨S', d, h1, Stp.refl, s2, h2.mono s1⟩
  stop := fun H S' s1 s2 => ⟨xs, L2.Same.seq (s1.trans s2) h, by rw [r.length]; exact Nat.le_refl _⟩
theorem it_tup {K : PySem.W.Frag} {S : Hp} {a : Addr} {xs : List V} {ds : List D} (h : SqT K S a xs) (r : Rps K S xs ds) : ItOk true K S (Itt K a) ds where
  go := fun i H S' hi s1 s2 => ⟨xs, xs[i]'(by rw [r.length]; exact hi), Same.seqT (s1.trans s2) h, by simp⟩
  yld := fun i H S' x H' hi s1 s2 y => by
    obtain ⟨e, y⟩ := y
    subst e
    have q := y xs (Same.seqT (s1.trans s2) h)
    obtain ⟨d, h1, h2⟩ := r.get' q
    exact ⟨S', d, h1, Stp.refl, s2, h2.mono s1⟩
  stop := fun H S' s1 s2 => ⟨xs, Same.seqT (s1.trans s2) h, by rw [r.length]; exact Nat.le_refl _⟩
def fiL (f : M D) : M (List D) := bnd f asL
def fiT (f : M D) : M (List D) := bnd f asT
theorem fi_list (he : FE X J W e f) : FI X J W true tg e (fiL (fD f)) := by
  obtain ⟨t, p, s⟩ := he.d
  refine ⟨_, pi_list p, fun σ H S fs Q res fs' R e p => ?_⟩
  refine s.bind R e p fun d fs1 v H1 S1 R1 r1 e1 p1 _ _ => ?_
  unfold asL at e1
  split at e1
  · cases e1
    cases r1 with
    | lst q r => exact ⟨_, rfl, ⟨_, SqL.of (R1.sub _ _ q)⟩, p1.here R1 (it_list' (SqL.of q) r)⟩
  · cases e1
theorem fi_tup (he : FE X J W e f) : FI X J W true tg e (fiT (fD f)) := by
  obtain ⟨t, p, s⟩ := he.d
  refine ⟨_, pi_tup p, fun σ H S fs Q res fs' R e p => ?_⟩
  refine s.bind R e p fun d fs1 v H1 S1 R1 r1 e1 p1 _ _ => ?_
  unfold asT at e1
  split at e1
  · cases e1
    cases r1 with
    | tup q _ r => exact ⟨_, rfl, ⟨_, Same.seqT R1.sub q⟩, p1.here R1 (it_tup q r)⟩
  · cases e1
/-- lo, lo + 1, .. -/
def rng (lo : Int) (n : Nat) : List D := (List.range n).map fun i => .int (lo + (i : Nat))
theorem rng_length (lo : Int) (n : Nat) : (rng lo n).length = n := by unfold rng; rw [List.length_map, List.length_range]
theorem rng_get {lo : Int} {n i : Nat} (h : i < n) : (rng lo n)[i]? = some (.int (lo + (i : Nat))) := by
  unfold rng
  rw [List.getElem?_map, List.getElem?_range h]
  rfl
theorem it_rng {K : PySem.W.Frag} {S : Hp} {lo : Int} {n : Nat} : ItOk true K S (Itr lo n) (rng lo n) where
  go := fun i H S' hi _ _ => by rw [rng_length] at hi; exact hi
  yld := fun i H S' x H' hi s1 s2 y => by
    rw [rng_length] at hi
    obtain ⟨e, y⟩ := y
    subst e y
    exact ⟨S', _, rng_get hi, Stp.refl, s2, Rp.int _⟩
  stop := fun H S' _ _ => by rw [rng_length]; exact Nat.le_refl _
/-- small -/
def smI (j : Int) : Bool := decide (j.natAbs < 4611686018427387904)
theorem smI_iff {j : Int} (h : smI j = true) : -(2 ^ 62) ≤ j ∧ j < 2 ^ 62 := by
  have := of_decide_eq_true h
  omega
theorem smI_of {j : Int} (h : -4611686018427387904 < j) (h2 : j < 4611686018427387904) : smI j = true := decide_eq_true (by omega)
def fiR1 (f : M (List D)) : M (List D) := bnd f fun ds fs => match ds with
  | [.int j] => bif smI j then some (.inr (rng 0 j.toNat), fs) else none
  | _ => none
def fiR2 (f : M (List D)) : M (List D) := bnd f fun ds fs => match ds with
  | [.int i, .int j] => bif smI i && smI j then some (.inr (rng i (j - i).toNat), fs) else none
  | _ => none
theorem fi_range1 {gs : M (List D)} (hg : Gl X "range") (hm : X.mg "range" = none) (ha : FDs X J W [e] gs) (hs : starEach [e] X.env = [(false, eval e X.env)] := by rfl) : FI X J W true tg (.Call (.Name "range" p) [e] [] pos) (fiR1 gs) := by
  obtain ⟨t, pa, s⟩ := ha
  refine ⟨_, pi_range1 hg hm pa hs, fun σ H S fs Q res fs' R e p => ?_⟩
  refine s.bind R e p fun ds fs1 v H1 S1 R1 r1 e1 p1 _ _ => ?_
  try dsimp only at e1
  split at e1
  · rename_i j
    cases h : smI j with
    | true =>
      rw [h] at e1
      cases e1
      cases r1 with
      | cons q1 r1 =>
        cases r1
        cases q1
        exact ⟨_, rfl, (smI_iff h).1, (smI_iff h).2, p1.here R1 it_rng⟩
    | false => rw [h] at e1; cases e1
  · cases e1
theorem fi_range2 {gs : M (List D)} (hg : Gl X "range") (hm : X.mg "range" = none) (ha : FDs X J W [e, e2] gs) (hs : starEach [e, e2] X.env = [(false, eval e X.env), (false, eval e2 X.env)] := by rfl) (hs2 : starEach [e2] X.env = [(false, eval e2 X.env)] := by rfl) : FI X J W true tg (.Call (.Name "range" p) [e, e2] [] pos) (fiR2 gs) := by
  obtain ⟨t, pa, s⟩ := ha
  refine ⟨_, pi_range2 hg hm pa hs hs2, fun σ H S fs Q res fs' R e p => ?_⟩
  refine s.bind R e p fun ds fs1 v H1 S1 R1 r1 e1 p1 _ _ => ?_
  try dsimp only at e1
  split at e1
  · rename_i i j
    cases h : smI i && smI j with
    | true =>
      rw [h] at e1
      cases e1
      rw [Bool.and_eq_true] at h
      cases r1 with
      | cons q1 r1 =>
        cases r1 with
        | cons q2 r1 =>
          cases r1
          cases q1
          cases q2
          exact ⟨_, _, rfl, ⟨(smI_iff h.1).1, (smI_iff h.1).2, (smI_iff h.2).1, (smI_iff h.2).2⟩, p1.here R1 it_rng⟩
    | false => rw [h] at e1; cases e1
  · cases e1
end

/-! ### for -/
def forL (g : D → Fs → Option Fs) (b : SM) : List D → SM
  | [], fs => some (.nx, fs)
  | d :: ds, fs => match g d fs with
    | none => none
    | some fs1 => match b fs1 with
      | none => none
      | some (.nx, fs2) => forL g b ds fs2
      | some (.ct, fs2) => forL g b ds fs2
      | some (.bk, fs2) => some (.nx, fs2)
      | some (r, fs2) => some (r, fs2)
def sFor (f : M (List D)) (g : D → Fs → Option Fs) (b : SM) : SM := bndS f fun ds => forL g b ds
section
variable {X : Cx} {J : Inf} {W : WX} {st : Bool} {tg iter : Expr} {body : List Stmt} {f : M (List D)} {g : D → Fs → Option Fs} {b : SM} {pos : Pos}
theorem forL_run {is : List Nat} {K : PySem.W.Frag} {mg : Str → Option Value} {it : It} {ds : List D} {S : Hp} {tG : TG} {tB : TS} {D : Ends} {r : Fl} {fs' : Fs} (ok : ItOk st K S it ds) (sg : SimG K J st tG is g) (sb : SimS K J mg W tB b)
    (p : PostS K J mg W D S r fs') {σ : St} {H : Hp} {fs : Fs} (R : Rel K J σ H S fs) (e : forL g b ds fs = some (r, fs')) :
    ∃ Wv : Nat → Nat → St → Hp → Prop, (∃ m, Wv 0 m σ H) ∧ ∀ i m σ H, Wv i m σ H →
      (it.stop i H ∧ D.nx σ H) ∨ (it.go i H ∧ ∃ N : St → Hp → Prop, (∀ σ' H', N σ' H' → ∃ m', m' < m ∧ Wv (i + 1) m' σ' H') ∧ ∀ x H', it.yld i H x H' → tG x σ H' fun σ2 H2 => tB { D with nx := N, ct := N, bk := D.nx } σ2 H2) := by
  refine ⟨fun i m σ H => m = ds.length - i ∧ i ≤ ds.length ∧ ∃ S1 fs1, Same S S1 ∧ Rel K J σ H S1 fs1 ∧ forL g b (ds.drop i) fs1 = some (r, fs'), ⟨ds.length, by simp, Nat.zero_le _, S, fs, Same.refl _, R, by simpa using e⟩, ?_⟩
  rintro i m σ1 H1 ⟨rfl, hi, S1, fs1, gr, R1, e1⟩
  by_cases hlt : i < ds.length
  · refine .inr ⟨ok.go i H1 S1 hlt gr R1.sub, fun σ' H' => ∃ S2 fs2, Same S S2 ∧ Rel K J σ' H' S2 fs2 ∧ forL g b (ds.drop (i + 1)) fs2 = some (r, fs'), ?_, ?_⟩
    · rintro σ' H' ⟨S2, fs2, gr2, R2, e2⟩
      exact ⟨ds.length - (i + 1), by omega, rfl, hlt, S2, fs2, gr2, R2, e2⟩
    · intro x H' y
      obtain ⟨S2, d, hd, st2, sub2, rp⟩ := ok.yld i H1 S1 x H' hlt gr R1.sub y
      have R2 := R1.grown st2 sub2
      have gr2 := gr.trans st2.grow
      have ed : ds.drop i = d :: ds.drop (i + 1) := by
        rw [← List.getElem_cons_drop hlt]
        congr 1
        rw [List.getElem?_eq_getElem hlt] at hd
        exact Option.some.inj hd
      rw [ed] at e1
      simp only [forL] at e1
      split at e1
      · cases e1
      · rename_i fs3 q3
        refine sg σ1 H' S2 fs1 x d fs3 _ R2 rp q3 fun σ3 R3 _ _ => ?_
        have fin : ∀ {r' : Fl} {fs4 : Fs}, b fs3 = some (r', fs4) → (∀ σ' H' S', Rel K J σ' H' S' fs4 → Same S2 S' → match r' with
            | .nx => ∃ S2 fs2, Same S S2 ∧ Rel K J σ' H' S2 fs2 ∧ forL g b (ds.drop (i + 1)) fs2 = some (r, fs')
            | .bk => D.nx σ' H'
            | .ct => ∃ S2 fs2, Same S S2 ∧ Rel K J σ' H' S2 fs2 ∧ forL g b (ds.drop (i + 1)) fs2 = some (r, fs')
            | .ret fr d => ∀ v, RetJ K J S' H' v fr d → D.rt v H'
            | .ex c => ∀ C, mg c = some (.ref C) → W (.ref C) none σ' H') → tB { D with nx := fun σ' H' => ∃ S2 fs2, Same S S2 ∧ Rel K J σ' H' S2 fs2 ∧ forL g b (ds.drop (i + 1)) fs2 = some (r, fs'), ct := fun σ' H' => ∃ S2 fs2, Same S S2 ∧ Rel K J σ' H' S2 fs2 ∧ forL g b (ds.drop (i + 1)) fs2 = some (r, fs'), bk := D.nx } σ3 H' := fun {r' fs4} q k => by
          refine sb σ3 H' S2 fs3 _ r' fs4 R3 q fun σ' H' S' R' gr' => ?_
          have z := k σ' H' S' R' gr'
          cases r' <;> exact z
        split at e1
        · cases e1
        · rename_i fs4 q4
          exact fin q4 fun σ' H' S' R' gr' => ⟨S', fs4, gr2.trans gr', R', e1⟩
        · rename_i fs4 q4
          exact fin q4 fun σ' H' S' R' gr' => ⟨S', fs4, gr2.trans gr', R', e1⟩
        · rename_i fs4 q4
          cases e1
          exact fin q4 fun σ' H' S' R' gr' => p σ' H' S' R' (gr2.trans gr')
        · rename_i r4 fs4 n1 n2 n3 q4
          cases e1
          refine fin q4 fun σ' H' S' R' gr' => ?_
          have z := p σ' H' S' R' (gr2.trans gr')
          cases r with
          | nx => exact absurd rfl n1
          | bk => exact absurd rfl n3
          | ct => exact absurd rfl n2
          | ret fr d => exact z
          | ex c => exact z
  · have ei : i = ds.length := by omega
    subst ei
    rw [List.drop_length] at e1
    cases e1
    exact .inl ⟨ok.stop H1 S1 gr R1.sub, p σ1 H1 S1 R1 gr⟩
theorem fs_for {is : List Nat} (hp : PassesOwn (model X.prog X.w) X.A X.env X.xe) (hc : X.calm = true) (hi : FI X J W st tg iter f) (hg : FG X J st tg is g) (hb : FSs X J W body b) (hs : ∀ x, foldedSetIterable iter X.env x = pure x := by intro _; rfl) :
    FS X J W (.For tg iter body [] pos) (sFor f g b) := by
  obtain ⟨wi, pi, si⟩ := hi
  obtain ⟨tG, pg, sg⟩ := hg
  obtain ⟨tB, pb, sb⟩ := hb
  refine ⟨_, ps_for hp hc pi pg pb hs, fun σ H S fs D r fs' R e p => ?_⟩
  exact si.bindS R e p fun ds fs1 it H1 S1 R1 r1 e1 p1 _ _ => forL_run r1 sg sb p1 R1 e1

/-! ### while -/
/-- a turn, then k -/
def wStep (c : M Bool) (b : SM) (k : SM) : SM := fun fs => match c fs with
  | none => none
  | some (.inl e, fs1) => some (.ex e, fs1)
  | some (.inr false, fs1) => some (.nx, fs1)
  | some (.inr true, fs1) => match b fs1 with
    | none => none
    | some (.nx, fs2) => k fs2
    | some (.ct, fs2) => k fs2
    | some (.bk, fs2) => some (.nx, fs2)
    | some (r, fs2) => some (r, fs2)
theorem wStep_mono {c : M Bool} {b k k' : SM} (hk : ∀ fs r, k fs = some r → k' fs = some r) {fs : Fs} {r : Fl × Fs} (h : wStep c b k fs = some r) : wStep c b k' fs = some r := by
  unfold wStep at h ⊢
  split at h
  · cases h
  · exact h
  · exact h
  · split at h
    · cases h
    · exact hk _ _ h
    · exact hk _ _ h
    · exact h
    · exact h
def whileN (c : M Bool) (b : SM) : Nat → SM
  | 0 => fun _ => none
  | n + 1 => wStep c b (whileN c b n)
theorem whileN_succ {c : M Bool} {b : SM} : ∀ {n : Nat} (fs : Fs) (r : Fl × Fs), whileN c b n fs = some r → whileN c b (n + 1) fs = some r
  | 0, _, _, h => by cases h
  | _ + 1, _, _, h => wStep_mono (fun fs r => whileN_succ fs r) h
theorem whileN_mono {c : M Bool} {b : SM} {n : Nat} {fs : Fs} {r : Fl × Fs} (h : whileN c b n fs = some r) : ∀ k, whileN c b (n + k) fs = some r
  | 0 => h
  | k + 1 => whileN_succ fs r (whileN_mono h k)
open Classical in
/-- the loop: what some number of turns gives -/
noncomputable def sWhile (c : M Bool) (b : SM) : SM := fun fs => if h : ∃ n r, whileN c b n fs = some r then some (choose (choose_spec h)) else none
theorem sWhile_of {c : M Bool} {b : SM} {n : Nat} {fs : Fs} {r : Fl × Fs} (h : whileN c b n fs = some r) : sWhile c b fs = some r := by
  have hx : ∃ n r, whileN c b n fs = some r := ⟨n, r, h⟩
  unfold sWhile
  rw [dif_pos hx]
  have h2 := Classical.choose_spec (Classical.choose_spec hx)
  have a := whileN_mono h (Classical.choose hx)
  have b := whileN_mono h2 n
  rw [Nat.add_comm] at b
  rw [a] at b
  exact b.symm
theorem of_sWhile {c : M Bool} {b : SM} {fs : Fs} {r : Fl × Fs} (h : sWhile c b fs = some r) : ∃ n, whileN c b n fs = some r := by
  unfold sWhile at h
  split at h
  · rename_i hx
    cases h
    exact ⟨_, Classical.choose_spec (Classical.choose_spec hx)⟩
  · cases h
theorem wStep_fin {c : M Bool} {b k : SM} {fs : Fs} {r : Fl × Fs} (hk : ∀ fs r, k fs = some r → ∃ n, whileN c b n fs = some r) (h : wStep c b k fs = some r) : ∃ n, whileN c b n fs = some r := by
  have h' := h
  unfold wStep at h
  split at h
  · cases h
  · rename_i q; exact ⟨1, by simp only [whileN, wStep, q]; exact h⟩
  · rename_i q; exact ⟨1, by simp only [whileN, wStep, q]; exact h⟩
  · rename_i fs1 q
    split at h
    · cases h
    · rename_i fs2 q2
      obtain ⟨n, hn⟩ := hk _ _ h
      exact ⟨n + 1, by simp only [whileN, wStep, q, q2]; exact hn⟩
    · rename_i fs2 q2
      obtain ⟨n, hn⟩ := hk _ _ h
      exact ⟨n + 1, by simp only [whileN, wStep, q, q2]; exact hn⟩
    · rename_i fs2 q2; exact ⟨1, by simp only [whileN, wStep, q, q2]; exact h⟩
    · rename_i r2 fs2 n1 n2 n3 q2
      refine ⟨1, ?_⟩
      simp only [whileN, wStep, q, q2]
      cases r2 with
      | nx => exact absurd rfl n1
      | ct => exact absurd rfl n2
      | bk => exact absurd rfl n3
      | ret fr d => exact h
      | ex c => exact h
/-- one turn -/
theorem sWhile_eq (c : M Bool) (b : SM) (fs : Fs) : sWhile c b fs = wStep c b (sWhile c b) fs := by
  cases q : wStep c b (sWhile c b) fs with
  | some r =>
    obtain ⟨n, hn⟩ := wStep_fin (fun fs r => of_sWhile) q
    exact sWhile_of hn
  | none =>
    cases q2 : sWhile c b fs with
    | none => rfl
    | some r =>
      obtain ⟨n, hn⟩ := of_sWhile q2
      cases n with
      | zero => cases hn
      | succ n =>
        rw [wStep_mono (fun fs r => sWhile_of (n := n)) hn] at q
        cases q
theorem fs_while {c : Expr} {fc : M Bool} (hp : PassesOwn (model X.prog X.w) X.A X.env X.xe) (hc : FT X J W c fc) (hb : FSs X J W body b) : FS X J W (.While c body [] pos) (sWhile fc b) := by
  obtain ⟨tc, pc, sc⟩ := hc
  obtain ⟨tB, pb, sb⟩ := hb
  refine ⟨_, ps_while hp pc pb, fun σ H S fs D r fs' R e p => ?_⟩
  obtain ⟨n, hn⟩ := of_sWhile e
  refine ⟨fun m σ H => ∃ S1 fs1, Same S S1 ∧ Rel X.K J σ H S1 fs1 ∧ whileN fc b m fs1 = some (r, fs'), ⟨n, S, fs, Same.refl _, R, hn⟩, ?_⟩
  rintro m σ1 H1 ⟨S1, fs1, gr, R1, e1⟩
  cases m with
  | zero => cases e1
  | succ m =>
    unfold whileN wStep at e1
    have ex : bndS fc (fun k fs2 => match k with
        | false => some (.nx, fs2)
        | true => match b fs2 with
          | none => none
          | some (.nx, fs2) => whileN fc b m fs2
          | some (.ct, fs2) => whileN fc b m fs2
          | some (.bk, fs2) => some (.nx, fs2)
          | some (r, fs2) => some (r, fs2)) fs1 = some (r, fs') := by
      unfold bndS
      cases hq : fc fs1 with
      | none => rw [hq] at e1; cases e1
      | some z =>
        rw [hq] at e1
        obtain ⟨z1, z2⟩ := z
        cases z1 with
        | inl c => exact e1
        | inr k => cases k <;> exact e1
    refine sc.bindS R1 ex (p.next gr) fun k fs2 k' H2 S2 R2 r2 e2 p2 st2 _ => ?_
    cases r2
    cases k with
    | false =>
      rw [if_neg Bool.false_ne_true]
      cases e2
      exact p2 σ1 H2 S2 R2 (Same.refl _)
    | true =>
      rw [if_pos rfl]
      have gr2 := gr.trans st2.grow
      refine ⟨fun σ' H' => ∃ S2 fs2, Same S S2 ∧ Rel X.K J σ' H' S2 fs2 ∧ whileN fc b m fs2 = some (r, fs'), fun σ' H' ⟨S3, fs3, g3, R3, e3⟩ => ⟨m, Nat.lt_succ_self _, S3, fs3, g3, R3, e3⟩, ?_⟩
      have fin : ∀ {r' : Fl} {fs4 : Fs}, b fs2 = some (r', fs4) → (∀ σ' H' S', Rel X.K J σ' H' S' fs4 → Same S2 S' → match r' with
          | .nx => ∃ S2 fs2, Same S S2 ∧ Rel X.K J σ' H' S2 fs2 ∧ whileN fc b m fs2 = some (r, fs')
          | .bk => D.nx σ' H'
          | .ct => ∃ S2 fs2, Same S S2 ∧ Rel X.K J σ' H' S2 fs2 ∧ whileN fc b m fs2 = some (r, fs')
          | .ret fr d => ∀ v, RetJ X.K J S' H' v fr d → D.rt v H'
          | .ex c => ∀ C, X.mg c = some (.ref C) → W (.ref C) none σ' H') → tB { D with nx := fun σ' H' => ∃ S2 fs2, Same S S2 ∧ Rel X.K J σ' H' S2 fs2 ∧ whileN fc b m fs2 = some (r, fs'), ct := fun σ' H' => ∃ S2 fs2, Same S S2 ∧ Rel X.K J σ' H' S2 fs2 ∧ whileN fc b m fs2 = some (r, fs'), bk := D.nx } σ1 H2 := fun {r' fs4} q k => by
        refine sb σ1 H2 S2 fs2 _ r' fs4 R2 q fun σ' H' S' R' gr' => ?_
        have z := k σ' H' S' R' gr'
        cases r' <;> exact z
      dsimp only at e2
      split at e2
      · cases e2
      · rename_i fs4 q4
        exact fin q4 fun σ' H' S' R' gr' => ⟨S', fs4, gr2.trans gr', R', e2⟩
      · rename_i fs4 q4
        exact fin q4 fun σ' H' S' R' gr' => ⟨S', fs4, gr2.trans gr', R', e2⟩
      · rename_i fs4 q4
        cases e2
        exact fin q4 fun σ' H' S' R' gr' => p2 σ' H' S' R' gr'
      · rename_i r4 fs4 n1 n2 n3 q4
        cases e2
        refine fin q4 fun σ' H' S' R' gr' => ?_
        have z := p2 σ' H' S' R' gr'
        cases r with
        | nx => exact absurd rfl n1
        | bk => exact absurd rfl n3
        | ct => exact absurd rfl n2
        | ret fr d => exact z
        | ex c => exact z
end
end Fx

namespace Fx
open PySem PySem.Spec PyProof.Rows L2
/-! ### a def, by its body -/
def outs (k : Nat) : Nat → Fs → List Sl
  | _, [] => []
  | j, s :: r => if j = k then [] else (match s with
    | .own n d => if n = j + 1 then .own n d else .no
    | _ => .no) :: outs k (j + 1) r
def okArgs : Nat → List Sl → Bool
  | _, [] => true
  | j, .own n _ :: r => n == j + 1 && okArgs (j + 1) r
  | j, .dat _ :: r => okArgs (j + 1) r
  | _, .no :: _ => false
def mkFn (k N : Nat) (g : SM) : Fn := fun as => if as.length = k then
    match g (as ++ List.replicate (N - k) .no) with
    | some (.nx, fs) => some (.inr (false, .none), outs k 0 fs)
    | some (.ret fr d, fs) => some (.inr (fr, d), outs k 0 fs)
    | some (.ex c, fs) => some (.inl c, outs k 0 fs)
    | _ => none
  else none
theorem outs_get {k : Nat} : ∀ {j : Nat} {fs : Fs} {i n : Nat} {d : D}, (outs k j fs)[i]? = some (.own n d) → fs[i]? = some (.own n d) ∧ n = j + i + 1
  | _, [], _, _, _, h => by simp [outs] at h
  | j, s :: r, i, n, d, h => by
    simp only [outs] at h
    split at h
    · simp at h
    · cases i with
      | zero =>
        simp only [List.getElem?_cons_zero] at h
        split at h
        · split at h
          · rename_i hn
            cases h
            exact ⟨rfl, by omega⟩
          · cases h
        · cases h
      | succ i =>
        simp only [List.getElem?_cons_succ] at h ⊢
        obtain ⟨h1, h2⟩ := outs_get h
        exact ⟨h1, by omega⟩
section
variable {P : Program} {w : World} {K : PySem.W.Frag} {mg : Str → Option Value} {base : Heap}
/-- the entry -/
def infOf (vs : List V) (as : List Sl) (H S : Hp) : Inf where
  B := fun j => match as[j]?, vs[j]? with
    | some (.own _ _), some (.ref p) => some p
    | _, _ => none
  H0 := H
  S0 := S
theorem rel_start {S H : Hp} {vs : List V} {as : List Sl} {N : List Str} (sub : Same S H) (A : ArgR K S H vs as) (hN : vs.length ≤ N.length) : Rel K (infOf vs as H S) (L2.start N vs) H S (as ++ List.replicate (N.length - vs.length) .no) := by
  have lv : ∀ {i : Nat} {s : Sl}, s ≠ .no → (as ++ List.replicate (N.length - vs.length) Sl.no)[i]? = some s → as[i]? = some s := fun {i s} hs h => by
    by_cases hi : i < as.length
    · rwa [List.getElem?_append_left hi] at h
    · rw [List.getElem?_append_right (by omega), List.getElem?_replicate] at h
      split at h
      · cases h; exact absurd rfl hs
      · cases h
  have sv : ∀ {i : Nat} {v : V}, vs[i]? = some v → (L2.start N vs)[i]? = some (some v) := fun {i v} h => by
    have hi := (List.getElem?_eq_some_iff.mp h).1
    unfold L2.start
    rw [List.getElem?_append_left (by rw [List.length_map]; exact hi), List.getElem?_map, h]
    rfl
  refine ⟨sub, ?_, fun i d h => ?_, fun i n d h => ?_, fun i j n m d e p h1 h2 h3 h4 => ?_, fun a o e _ => e, Same.refl _, fun a h => .inl h, fun a h => h, fun a ⟨j, hj⟩ => ?_⟩
  · unfold L2.start
    rw [List.length_append, List.length_append, List.length_map, List.length_replicate, List.length_replicate, A.len]
  · obtain ⟨v, h1, h2⟩ := A.dat i d (lv (by simp) h)
    exact ⟨v, sv h1, h2⟩
  · have h' := lv (by simp) h
    obtain ⟨e, p, h1, h2, h3⟩ := A.own i n d h'
    refine ⟨p, sv h1, h2, h3, ?_⟩
    subst e
    show (match as[i]?, vs[i]? with
      | some (.own _ _), some (.ref p) => some p
      | _, _ => none) = some p
    rw [h', h1]
  · obtain ⟨_, p1, z1, _⟩ := A.own i n d (lv (by simp) h1)
    obtain ⟨_, p2, z2, _⟩ := A.own j m e (lv (by simp) h2)
    have e1 := sv z1
    have e2 := sv z2
    rw [h3] at e1
    rw [h4] at e2
    cases e1
    cases e2
    exact A.sep i j n m d e p (lv (by simp) h1) (lv (by simp) h2) z1 z2
  · have hj' : (match as[j]?, vs[j]? with
      | some (.own _ _), some (.ref p) => some p
      | _, _ => none) = some a := hj
    split at hj'
    · rename_i n d p q1 q2
      cases hj'
      obtain ⟨_, p', z1, z2, _⟩ := A.own j n d q1
      rw [q2] at z1
      cases z1
      obtain ⟨o, ho⟩ := z2.live
      show H a ≠ none
      rw [ho]; simp
    · cases hj'
theorem bw_bx {vs : List V} {as : List Sl} {H S : Hp} {a : Addr} (h : (infOf vs as H S).bw a) : Bx vs as a := by
  obtain ⟨j, hj⟩ := h
  have hj' : (match as[j]?, vs[j]? with
      | some (.own _ _), some (.ref p) => some p
      | _, _ => none) = some a := hj
  split at hj'
  · rename_i n d p q1 q2
    cases hj'
    exact ⟨j, n, d, q1, q2⟩
  · cases hj'
/-- THE RULE: a def that may raise own errors, by its body -/
theorem fn_mk {x qual : Str} {st : Stmt} {f : Addr} {fd : FuncData} {N ps : List Str} {k : Nat} {g : SM} (F : Fun K x qual st f fd) (Sc : FnScope N ps (defScope st))
    (hb : ∀ (cdv : Value) (A : Around) (outer : List Env) (s : Shared) (H : Hp) (E : XK) (J : Inf), Room k (A.deeper (envOfC qual (defScope st) s.heap.objs.size f cdv)) →
      FSs (cxOf (L2.CX P w) P w K mg base N qual (defScope st) f cdv A outer s H E) J (fun cls d _ H' => E cls d H') (defBody st) g) :
    FnS P w K mg base (k + 1) f fd ps (mkFn ps.length N.length g) := by
  have hpl : ps.length ≤ N.length := by have := congrArg List.length Sc.pre; rw [List.length_take] at this; omega
  have arg : ∀ {vs : List V} {as : List Sl} {S H : Hp} {r}, ArgR K S H vs as → mkFn ps.length N.length g as = some r → vs.length = ps.length := fun {vs as S H r} A e => by
    unfold mkFn at e
    split at e
    · rename_i hl; rw [A.len]; exact hl
    · cases e
  refine F.okX Sc (fun vs H Q E h => ?_) (fun cdv A outer s H vs Q E hr h => ?_)
  · obtain ⟨S, as, res, os, sub, AR, e, _⟩ := h
    exact arg AR e
  · obtain ⟨S, as, res, os, sub, AR, e, post⟩ := h
    have hl := arg AR e
    obtain ⟨t, pt, sim⟩ := hb cdv A outer s H E (infOf vs as H S) hr
    refine ⟨t, pt, ?_⟩
    have R := rel_start (N := N) sub AR (by rw [hl]; exact hpl)
    rw [hl] at R
    unfold mkFn at e
    rw [if_pos (by rw [← AR.len]; exact hl)] at e
    have fin : ∀ {σ' : St} {H' S' : Hp} {fs' : Fs}, Rel K (infOf vs as H S) σ' H' S' fs' → Same S' H' ∧ Stp (Bx vs as) (fun _ => False) H S H' S' ∧ OutR K S' H' vs as (outs ps.length 0 fs') := fun {σ' H' S' fs'} R' => by
      refine ⟨R'.sub, ⟨fun a o q nb => R'.keep0 a o q fun z => nb (bw_bx z), R'.grow0, fun a q => (R'.new0 a q).imp id .inl, R'.live0⟩, fun i n d q => ?_⟩
      obtain ⟨q1, q2⟩ := outs_get q
      obtain ⟨p, z1, z2, z3, z4⟩ := R'.own i n d q1
      have en : n = i + 1 := by omega
      subst en
      have z4' : (match as[i]?, vs[i]? with
        | some (.own _ _), some (.ref p) => some p
        | _, _ => none) = some p := z4
      split at z4'
      · rename_i m e0 p' w1 w2
        cases z4'
        exact ⟨⟨m, e0, w1⟩, p, w2, z2, z3⟩
      · cases z4'
    split at e
    · rename_i fs' q
      cases e
      refine sim _ H S _ _ .nx fs' R q fun σ' H' S' R' _ => ?_
      obtain ⟨f1, f2, f3⟩ := fin R'
      exact post H' S' f1 f2 f3 .non Rp.non
    · rename_i fr d fs' q
      cases e
      refine sim _ H S _ _ (.ret fr d) fs' R q fun σ' H' S' R' _ v r => ?_
      obtain ⟨f1, f2, f3⟩ := fin R'
      refine post H' S' f1 f2 f3 v ?_
      cases fr with
      | false => exact r
      | true => exact r
    · rename_i c fs' q
      cases e
      refine sim _ H S _ _ (.ex c) fs' R q fun σ' H' S' R' _ C hC => ?_
      obtain ⟨f1, f2, f3⟩ := fin R'
      exact post H' S' f1 f2 f3 C hC
    · cases e
end

/-! ### comprehensions -/
def wipeF : Fs → List Nat → Fs
  | fs, [] => fs
  | fs, v :: vs => (wipeF fs vs).set v .no
def lcL (vs : List Nat) (g : D → Fs → Option Fs) (tt : M Bool) (fe : M Rv) : List D → List D → Fs → Option (List D × Fs)
  | [], acc, fs => some (acc, fs)
  | d :: ds, acc, fs => match g d fs with
    | none => none
    | some fs1 => match tt fs1 with
      | some (.inr true, fs2) => match fD fe fs2 with
        | some (.inr x, fs3) => if acc.length < sizeLine then lcL vs g tt fe ds (acc ++ [x]) (wipeF fs3 vs) else none
        | _ => none
      | some (.inr false, fs2) => lcL vs g tt fe ds acc (wipeF fs2 vs)
      | _ => none
def fLc (vs : List Nat) (f : M (List D)) (g : D → Fs → Option Fs) (tt : M Bool) (fe : M Rv) : M Rv := bnd f fun ds fs => match lcL vs g tt fe ds [] (wipeF fs vs) with
  | some (out, fs1) => some (.inr (.fresh (.list out)), fs1)
  | none => none
def tYesF : M Bool := rt true
theorem wipe_len (σ : St) : ∀ vs : List Nat, (wipe σ vs).length = σ.length := wipe_length σ
theorem wipeF_len (fs : Fs) : ∀ vs : List Nat, (wipeF fs vs).length = fs.length
  | [] => rfl
  | v :: vs => by unfold wipeF; rw [List.length_set, wipeF_len fs vs]
theorem wipe_in {σ : St} : ∀ {vs : List Nat} {i : Nat}, i ∈ vs → i < σ.length → (wipe σ vs)[i]? = some none
  | v :: vs, i, h, hl => by
    unfold wipe
    by_cases hv : v = i
    · subst hv
      rw [List.getElem?_set_self (by rw [wipe_length]; exact hl)]
    · rw [List.getElem?_set_ne hv]
      rcases List.mem_cons.mp h with e | h
      · exact absurd e.symm hv
      · exact wipe_in h hl
theorem wipeF_in {fs : Fs} : ∀ {vs : List Nat} {i : Nat} {s : Sl}, i ∈ vs → (wipeF fs vs)[i]? = some s → s = .no
  | v :: vs, i, s, h, e => by
    unfold wipeF at e
    by_cases hv : v = i
    · subst hv
      by_cases hl : v < (wipeF fs vs).length
      · rw [List.getElem?_set_self hl] at e; cases e; rfl
      · rw [List.getElem?_eq_none (by simpa using hl)] at e; cases e
    · rw [List.getElem?_set_ne hv] at e
      rcases List.mem_cons.mp h with e' | h
      · exact absurd e'.symm hv
      · exact wipeF_in h e
theorem wipeF_out {fs : Fs} : ∀ {vs : List Nat} {i : Nat}, i ∉ vs → (wipeF fs vs)[i]? = fs[i]?
  | [], _, _ => rfl
  | v :: vs, i, h => by
    unfold wipeF
    rw [List.mem_cons, not_or] at h
    rw [List.getElem?_set_ne (Ne.symm h.1), wipeF_out h.2]
theorem wipe_off {σ σ' : St} {is vs : List Nat} (h : Off is (wipe σ vs) σ') (hs : ∀ i ∈ is, i ∈ vs) : wipe σ' vs = wipe σ vs := by
  apply List.ext_getElem?
  intro i
  by_cases hi : i ∈ vs
  · by_cases hl : i < σ.length
    · rw [wipe_in hi (by rw [h.1, wipe_length]; exact hl), wipe_in hi hl]
    · rw [List.getElem?_eq_none (by rw [wipe_length, h.1, wipe_length]; omega), List.getElem?_eq_none (by rw [wipe_length]; omega)]
  · rw [wipe_out hi, h.2 i (fun z => hi (hs i z))]
section
variable {K : PySem.W.Frag} {J : Inf} {σ : St} {H S : Hp} {fs : Fs} {vs : List Nat}
/-- an object of nobody's is changed -/
theorem Rel.chg {p : Addr} {o : HO} (R : Rel K J σ H S fs) (hs : S p = none) (hw : ¬ Wn σ fs p) (hn : J.H0 p = none) : Rel K J σ (upd H p o) S fs where
  sub := fun a u e => by rw [upd_ne (ne_of_none e hs)]; exact R.sub _ _ e
  len := R.len
  dat := R.dat
  own := fun i n d e => by
    obtain ⟨q, h1, h2, h3, h4⟩ := R.own i n d e
    have ne : q ≠ p := fun z => hw ⟨i, n, d, e, by rw [← z]; exact h1⟩
    exact ⟨q, h1, h2.mono (Same.refl _) fun u z => by rw [upd_ne ne]; exact z, h3, h4⟩
  sep := R.sep
  keep0 := fun a u e nb => by
    have ne : a ≠ p := ne_of_none e hn
    rw [upd_ne ne]
    exact R.keep0 a u e nb
  grow0 := R.grow0
  new0 := R.new0
  live0 := fun a h => by
    by_cases e : a = p
    · subst e; rw [upd_same]; simp
    · rw [upd_ne e]; exact R.live0 a h
  bwl := R.bwl
/-- slots seen through two frames that agree where something is told -/
theorem Rel.through {σ' : St} {fs' : Fs} (R : Rel K J σ H S fs) (hl : σ'.length = fs'.length) (h : ∀ (i : Nat) (s : Sl), s ≠ .no → fs'[i]? = some s → fs[i]? = some s ∧ σ'[i]? = σ[i]?) : Rel K J σ' H S fs' where
  sub := R.sub
  len := hl
  dat := fun i d e => by
    obtain ⟨h1, h2⟩ := h i _ (by simp) e
    obtain ⟨v, q1, q2⟩ := R.dat i d h1
    exact ⟨v, by rw [h2]; exact q1, q2⟩
  own := fun i n d e => by
    obtain ⟨h1, h2⟩ := h i _ (by simp) e
    obtain ⟨p, q1, q2⟩ := R.own i n d h1
    exact ⟨p, by rw [h2]; exact q1, q2⟩
  sep := fun i j n m d e p q1 q2 q3 q4 => by
    obtain ⟨h1, h2⟩ := h i _ (by simp) q1
    obtain ⟨h3, h4⟩ := h j _ (by simp) q2
    rw [h2] at q3
    rw [h4] at q4
    exact R.sep i j n m d e p h1 h3 q3 q4
  keep0 := R.keep0
  grow0 := R.grow0
  new0 := R.new0
  live0 := R.live0
  bwl := R.bwl
theorem Rel.wiped (R : Rel K J σ H S fs) (vs : List Nat) : Rel K J (wipe σ vs) H S (wipeF fs vs) :=
  R.through (by rw [wipe_length, wipeF_len]; exact R.len) fun i s hs e => by
    by_cases hi : i ∈ vs
    · exact absurd (wipeF_in hi e) hs
    · rw [wipeF_out hi] at e
      exact ⟨e, wipe_out hi⟩
theorem Rel.unwiped (R : Rel K J (wipe σ vs) H S fs) (hw : ∀ i ∈ vs, ∀ s, fs[i]? = some s → s = .no) : Rel K J σ H S fs :=
  R.through (by rw [← wipe_length σ vs]; exact R.len) fun i s hs e => by
    by_cases hi : i ∈ vs
    · exact absurd (hw i hi s e) hs
    · exact ⟨e, (wipe_out hi).symm⟩
theorem shr_wipeF : Shr fs (wipeF fs vs) := fun i n d e => by
  by_cases hi : i ∈ vs
  · have := wipeF_in hi e
    cases this
  · rw [wipeF_out hi] at e
    exact ⟨d, e⟩
theorem wn_wipe {fs' : Fs} {a : Addr} (sh : Shr fs fs') (hw : ∀ i ∈ vs, ∀ s, fs'[i]? = some s → s = .no) (h : Wn (wipe σ vs) fs' a) : Wn σ fs a := by
  obtain ⟨i, n, d, h1, h2⟩ := h
  have hi : i ∉ vs := fun z => by
    have := hw i z _ h1
    cases this
  rw [wipe_out hi] at h2
  obtain ⟨d', h3⟩ := sh i n d h1
  exact ⟨i, n, d', h3, h2⟩
theorem wz_wipe {fs' : Fs} {a : Addr} (sh : Shr fs fs') (hw : ∀ i ∈ vs, ∀ s, fs'[i]? = some s → s = .no) (h : Wz (wipe σ vs) fs' a) : Wz σ fs a := by
  obtain ⟨i, d, h1, h2⟩ := h
  have hi : i ∉ vs := fun z => by
    have := hw i z _ h1
    cases this
  rw [wipe_out hi] at h2
  obtain ⟨d', h3⟩ := sh i 0 d h1
  exact ⟨i, d', h3, h2⟩
end
/-- own slots behind a target that only touches vs -/
theorem off_wn {σ0 σ' : St} {fs0 fs' : Fs} {vs is : List Nat} {a : Addr} (o : Off is σ0 σ') (sh : Shr fs0 fs') (hs : ∀ i ∈ is, i ∈ vs) (hw : ∀ i ∈ vs, ∀ s, fs0[i]? = some s → s = .no) : (Wn σ' fs' a → Wn σ0 fs0 a) ∧ (Wz σ' fs' a → Wz σ0 fs0 a) := by
  constructor
  · rintro ⟨i, n, d, h1, h2⟩
    obtain ⟨d', h3⟩ := sh i n d h1
    have hi : i ∉ is := fun z => by
      have := hw i (hs i z) _ h3
      cases this
    rw [o.2 i hi] at h2
    exact ⟨i, n, d', h3, h2⟩
  · rintro ⟨i, d, h1, h2⟩
    obtain ⟨d', h3⟩ := sh i 0 d h1
    have hi : i ∉ is := fun z => by
      have := hw i (hs i z) _ h3
      cases this
    rw [o.2 i hi] at h2
    exact ⟨i, d', h3, h2⟩
section
variable {K : PySem.W.Frag} {J : Inf} {mg : Str → Option Value} {st : Bool} {vs is : List Nat} {g : D → Fs → Option Fs} {tt : M Bool} {fe : M Rv} {tG : TG} {tT : TT} {tE : TE}
abbrev W0 : WX := fun _ _ _ _ => False
/-- the state between two turns: acc is told at D -/
structure LcI (K : PySem.W.Frag) (J : Inf) (vs : List Nat) (σ : St) (fs0 : Fs) (H1 S1 : Hp) (Dl : Addr) (accD : List D) (H S : Hp) (fs : Fs) : Prop where
  rel : Rel K J (wipe σ vs) H S fs
  acc : ∃ acc, H Dl = some (.lst acc) ∧ Rps K S acc accD
  outS : S Dl = none
  outW : ¬ Wn (wipe σ vs) fs Dl
  fresh : J.H0 Dl = none
  stp : Stp (Wn σ fs0) (Wz σ fs0) H1 S1 H S
  shr : Shr fs0 fs
  wip : ∀ i ∈ vs, ∀ s, fs[i]? = some s → s = .no
theorem lc_turn {σ : St} {fs0 fs : Fs} {H1 S1 H S S' H' : Hp} {Dl : Addr} {accD : List D} {x : V} {d : D} (I : LcI K J vs σ fs0 H1 S1 Dl accD H S fs) (hD : H1 Dl = none) (hs : ∀ i ∈ is, i ∈ vs)
    (sg : SimG K J st tG is g) (sT : Sim K J mg W0 tT rB tt) (sE : Sim K J mg W0 tE (rV K) fe) (st2 : Stp (fun _ => False) (fun _ => False) H S H' S') (sub2 : Same S' H') (rp : RpK st K S' x d) {ds : List D} {res : List D × Fs} (Nx : Hp → Prop)
    (e : lcL vs g tt fe (d :: ds) accD fs = some res)
    (k : ∀ accD' H2 S2 fs2, LcI K J vs σ fs0 H1 S1 Dl accD' H2 S2 fs2 → lcL vs g tt fe ds accD' fs2 = some res → Nx H2) :
    tG x (wipe σ vs) H' fun σ2 H2 => wipe σ2 vs = wipe σ vs ∧ tT σ2 H2 fun b H3 =>
      if b = true then tE σ2 H3 fun y H4 => ∃ acc, H4 Dl = some (.lst acc) ∧ acc.length < sizeLine ∧ Nx (upd H4 Dl (.lst (acc ++ [y]))) else Nx H3 := by
  have R2 := I.rel.grown st2 sub2
  obtain ⟨acc0, a1, a2⟩ := I.acc
  have liveD : ∀ {W Z : Addr → Prop} {Ha Sa Hb Sb : Hp}, Stp W Z Ha Sa Hb Sb → Ha Dl = some (.lst acc0) → ¬ W Dl → Hb Dl = some (.lst acc0) := fun st h n => st.keep Dl _ h n
  simp only [lcL] at e
  split at e
  · cases e
  · rename_i fs3 q3
    refine sg (wipe σ vs) H' S' fs x d fs3 _ R2 rp q3 fun σ3 R3 off sh3 => ⟨wipe_off off hs, ?_⟩
    have own3 := fun a => off_wn (a := a) off sh3 hs I.wip
    have a1' : H' Dl = some (.lst acc0) := liveD st2 a1 (fun z => z)
    have outS' : S' Dl = none := by
      cases z : S' Dl with
      | none => rfl
      | some o =>
        rcases st2.new Dl (by rw [z]; simp) with w | w | w
        · exact absurd I.outS w
        · rw [a1] at w; cases w
        · exact w.elim
    -- behind the test
    have go : ∀ {fs4 : Fs} {H4 S4 : Hp}, Rel K J σ3 H4 S4 fs4 → Stp (Wn σ3 fs3) (Wz σ3 fs3) H' S' H4 S4 → Shr fs3 fs4 →
        LcI K J vs σ fs0 H1 S1 Dl accD H4 S4 (wipeF fs4 vs) ∧ H4 Dl = some (.lst acc0) ∧ S4 Dl = none ∧ ¬ Wn σ3 fs4 Dl ∧ Rps K S4 acc0 accD := fun {fs4 H4 S4} R4 st4 sh4 => by
      have nw3 : ¬ Wn σ3 fs3 Dl := fun z => I.outW ((own3 Dl).1 z)
      have nw4 : ¬ Wn σ3 fs4 Dl := fun z => nw3 (sh4.wn z)
      have b1 : H4 Dl = some (.lst acc0) := liveD st4 a1' nw3
      have b2 : S4 Dl = none := by
        cases z : S4 Dl with
        | none => rfl
        | some o =>
          rcases st4.new Dl (by rw [z]; simp) with w | w | ⟨i, d', w1, w2⟩
          · exact absurd outS' w
          · rw [a1'] at w; cases w
          · exact absurd ⟨i, 0, d', w1, w2⟩ nw3
      have b3 : Rps K S4 acc0 accD := (a2.mono st2.grow).mono st4.grow
      have sh : Shr fs0 fs4 := I.shr.trans (sh3.trans sh4)
      have stA : Stp (Wn σ fs0) (Wz σ fs0) H1 S1 H' S' := I.stp.trans st2 (fun _ z => z.elim) fun _ z => z.elim
      have stB : Stp (Wn σ fs0) (Wz σ fs0) H1 S1 H4 S4 := stA.trans st4 (fun a z => .inl (wn_wipe I.shr I.wip ((own3 a).1 z))) fun a z => .inl (wz_wipe I.shr I.wip ((own3 a).2 z))
      have Rw := R4.wiped vs
      rw [wipe_off off hs] at Rw
      refine ⟨⟨Rw, ⟨acc0, b1, b3⟩, b2, fun z => ?_, I.fresh, stB, sh.trans shr_wipeF, fun i hi s => wipeF_in hi⟩, b1, b2, nw4, b3⟩
      rw [← wipe_off off hs] at z
      exact nw4 (wn_wipe shr_wipeF (fun i hi s => wipeF_in hi) z)
    split at e
    · rename_i fs4 q4
      refine sT σ3 H' S' fs3 _ _ fs4 R3 q4 fun H4 S4 R4 st4 sh4 b rb => ?_
      cases rb
      rw [if_pos rfl]
      split at e
      · rename_i x5 fs5 q5
        split at e
        · rename_i hz
          refine sE.fz σ3 H4 S4 fs4 _ _ fs5 R4 q5 fun H5 S5 R5 st5 sh5 y ry => ?_
          obtain ⟨L5, b1, b2, b3, b4⟩ := go R5 (st4.seq sh4 st5) (sh4.trans sh5)
          refine ⟨acc0, b1, by rw [b4.length]; exact hz, ?_⟩
          have Rn := L5.rel.chg (o := .lst (acc0 ++ [y])) b2 L5.outW I.fresh
          refine k (accD ++ [x5]) _ S5 _ ⟨Rn, ⟨acc0 ++ [y], upd_same, b4.append (.cons ry .nil)⟩, b2, L5.outW, I.fresh, ⟨fun a o z nw => ?_, L5.stp.grow, L5.stp.new, fun a z => ?_⟩, L5.shr, L5.wip⟩ e
          · rw [upd_ne (ne_of_none z hD)]
            exact L5.stp.keep a o z nw
          · by_cases ea : a = Dl
            · subst ea; rw [upd_same]; simp
            · rw [upd_ne ea]; exact L5.stp.live a z
        · cases e
      · cases e
    · rename_i fs4 q4
      refine sT σ3 H' S' fs3 _ _ fs4 R3 q4 fun H4 S4 R4 st4 sh4 b rb => ?_
      cases rb
      rw [if_neg Bool.false_ne_true]
      obtain ⟨L4, _⟩ := go R4 st4 sh4
      exact k accD H4 S4 _ L4 e
    · cases e
end
section
variable {X : Cx} {J : Inf} {W : WX} {st : Bool} {elt tg iter : Expr} {ifs : List Expr} {scope : Scope} {own : List (Str × Nat)} {pos : Pos} {f : M (List D)} {g : D → Fs → Option Fs} {tt : M Bool} {fe : M Rv} {is : List Nat}
def FTs (X : Cx) (J : Inf) (W : WX) (ifs : List Expr) (f : M Bool) : Prop := ∃ t, PTs X ifs t ∧ Sim X.K J X.mg W t rB f
theorem fts_nil : FTs X J W [] tYesF := ⟨_, pts_nil, fun σ H S fs Q res fs' R e p => by cases e; exact p.here R rfl⟩
theorem fts_one {c : Expr} {u : M Bool} (h : FT X J W c u) : FTs X J W [c] u := let ⟨t, p, s⟩ := h; ⟨t, pts_one p, s⟩
/-- in every block of the comprehension -/
abbrev Blk (X : Cx) (scope : Scope) (s : Shared) (H : Hp) (C : Addr) (cl : List (Str × Addr)) (fp : List Addr) : Cx := X.blk s H scope (compEnvC scope cl C X.env) fp
theorem lc_parts (hg : ∀ s H C cl fp, FG (Blk X scope s H C cl fp) J st tg is g) (ht : ∀ s H C cl fp, FTs (Blk X scope s H C cl fp) J W0 ifs tt) (he : ∀ s H C cl fp, FE (Blk X scope s H C cl fp) J W0 elt fe) :
    ∃ tG tT tE, (∀ s H C cl fp, PG (Blk X scope s H C cl fp) tg tG) ∧ (∀ s H C cl fp, PTs (Blk X scope s H C cl fp) ifs tT) ∧ (∀ s H C cl fp, PE (Blk X scope s H C cl fp) elt tE) ∧
      SimG X.K J st tG is g ∧ Sim X.K J X.mg W0 tT rB tt ∧ Sim X.K J X.mg W0 tE (rV X.K) fe := by
  refine ⟨fun v σ H Q => ∀ s H' C cl fp, (Classical.choose (hg s H' C cl fp)) v σ H Q, fun σ H Q => ∀ s H' C cl fp, (Classical.choose (ht s H' C cl fp)) σ H Q, fun σ H Q => ∀ s H' C cl fp, (Classical.choose (he s H' C cl fp)) σ H Q, ?_, ?_, ?_, ?_, ?_, ?_⟩
  · exact fun s H C cl fp => ⟨fun pins s' σ H' v u Q I r h => (Classical.choose_spec (hg s H C cl fp)).1.run pins s' σ H' v u Q I r (h s H C cl fp)⟩
  · exact fun s H C cl fp => ⟨fun pins s' σ H' Q I h => (Classical.choose_spec (ht s H C cl fp)).1.run pins s' σ H' Q I (h s H C cl fp)⟩
  · exact fun s H C cl fp => ⟨fun pins s' σ H' Q I h => (Classical.choose_spec (he s H C cl fp)).1.run pins s' σ H' Q I (h s H C cl fp)⟩
  · exact fun σ H S fs v d fs' Q R r e q s H' C cl fp => (Classical.choose_spec (hg s H' C cl fp)).2 σ H S fs v d fs' Q R r e q
  · exact fun σ H S fs Q res fs' R e p s H' C cl fp => (Classical.choose_spec (ht s H' C cl fp)).2 σ H S fs Q res fs' R e p
  · exact fun σ H S fs Q res fs' R e p s H' C cl fp => (Classical.choose_spec (he s H' C cl fp)).2 σ H S fs Q res fs' R e p
theorem sim_lc {wi : TI} {vs : List Nat} {tG : TG} {tT : TT} {tE : TE} (hs : ∀ i ∈ is, i ∈ vs) (si : Sim X.K J X.mg W wi (rI st X.K) f) (sg : SimG X.K J st tG is g) (sT : Sim X.K J X.mg W0 tT rB tt) (sE : Sim X.K J X.mg W0 tE (rV X.K) fe) :
    Sim X.K J X.mg W (tLc wi tG tT tE vs) (rV X.K) (fLc vs f g tt fe) := by
  intro σ H S fs Q res fs' R e p
  refine si.bind R e p fun ds fs1 it H1 S1 R1 r1 e1 p1 st1 sh1 => ?_
  try dsimp only at e1
  split at e1
  · rename_i out fsE q
    cases e1
    intro Dl hD
    have hn : J.H0 Dl = none := by
      cases z : J.H0 Dl with
      | none => rfl
      | some o => exact absurd hD (R1.live0 Dl (by rw [z]; simp))
    have hS : S1 Dl = none := by
      cases z : S1 Dl with
      | none => rfl
      | some o => rw [R1.sub _ _ z] at hD; cases hD
    have hW : ¬ Wn σ fs1 Dl := fun z => by
      obtain ⟨o, w⟩ := R1.wn_live z
      rw [hD] at w; cases w
    have I0 : LcI X.K J vs σ fs1 H1 S1 Dl [] (upd H1 Dl (.lst [])) S1 (wipeF fs1 vs) := by
      have st0 := stp_newH (S := S1) (o := .lst []) hD
      refine ⟨(R1.grown st0 (same_newH hD R1.sub)).wiped vs, ⟨[], upd_same, .nil⟩, hS, fun z => hW (wn_wipe shr_wipeF (fun i hi s => wipeF_in hi) z), hn, st0.weak (fun _ z => z.elim) fun _ z => z.elim, shr_wipeF, fun i hi s => wipeF_in hi⟩
    refine ⟨fun i m H => m = ds.length - i ∧ i ≤ ds.length ∧ ∃ accD S2 fs2, LcI X.K J vs σ fs1 H1 S1 Dl accD H S2 fs2 ∧ lcL vs g tt fe (ds.drop i) accD fs2 = some (out, fs'), ⟨ds.length, by simp, Nat.zero_le _, [], S1, _, I0, by simpa using q⟩, ?_⟩
    rintro i m H2 ⟨rfl, hi, accD, S2, fs2, I2, e2⟩
    by_cases hlt : i < ds.length
    · refine .inr ⟨r1.go i H2 S2 hlt I2.stp.grow I2.rel.sub, fun H' => ∃ accD S2 fs2, LcI X.K J vs σ fs1 H1 S1 Dl accD H' S2 fs2 ∧ lcL vs g tt fe (ds.drop (i + 1)) accD fs2 = some (out, fs'), fun H' hN => ⟨ds.length - (i + 1), by omega, rfl, hlt, hN⟩, fun x H' y => ?_⟩
      obtain ⟨S3, d, hd, st3, sub3, rp⟩ := r1.yld i H2 S2 x H' hlt I2.stp.grow I2.rel.sub y
      have ed : ds.drop i = d :: ds.drop (i + 1) := by
        rw [← List.getElem_cons_drop hlt]
        congr 1
        rw [List.getElem?_eq_getElem hlt] at hd
        exact Option.some.inj hd
      rw [ed] at e2
      exact lc_turn I2 hD hs sg sT sE st3 sub3 rp _ e2 fun accD' H4 S4 fs4 I4 e4 => ⟨accD', S4, fs4, I4, e4⟩
    · have ei : i = ds.length := by omega
      subst ei
      rw [List.drop_length] at e2
      cases e2
      refine .inl ⟨r1.stop H2 S2 I2.stp.grow I2.rel.sub, ?_⟩
      have Rf := I2.rel.unwiped I2.wip
      obtain ⟨acc, a1, a2⟩ := I2.acc
      refine p H2 S2 Rf (st1.seq sh1 I2.stp) (sh1.trans I2.shr) (.ref Dl) ⟨Dl, rfl, ⟨acc, a1, a2⟩, I2.outS, st1.none hD, fun z => hW (I2.shr.wn z)⟩
  · cases e1
/-- [elt for tg in iter if ..] -/
theorem fe_lc (hc : X.calm = true) (hN : X.N.Nodup) (hi : FI X J W st tg iter f) (ok : BlkOk X.N X.env.scope scope own) (hg : ∀ s H C cl fp, FG (Blk X scope s H C cl fp) J st tg is g) (ht : ∀ s H C cl fp, FTs (Blk X scope s H C cl fp) J W0 ifs tt)
    (he : ∀ s H C cl fp, FE (Blk X scope s H C cl fp) J W0 elt fe) (hsub : ∀ i ∈ is, i ∈ own.map (·.2) := by decide) (hs : ∀ x, foldedSetIterable iter X.env x = pure x := by intro _; rfl) :
    FE X J W (.ListComp elt [⟨tg, iter, ifs, 0⟩] scope pos) (fLc (own.map (·.2)) f g tt fe) := by
  obtain ⟨wi, pi, si⟩ := hi
  obtain ⟨tG, tT, tE, pg, pt, pe, sg, sT, sE⟩ := lc_parts hg ht he
  exact ⟨_, pe_lc hc hN pi ok pg pt pe hs, sim_lc hsub si sg sT sE⟩
/-- name = [..] -/
theorem fs_setLc {i : Nat} {y : Str} {py spos : Pos} (hc : X.calm = true) (hN : X.N.Nodup) (hi : FI X J W st tg iter f) (ok : BlkOk X.N X.env.scope scope own) (hg : ∀ s H C cl fp, FG (Blk X scope s H C cl fp) J st tg is g) (ht : ∀ s H C cl fp, FTs (Blk X scope s H C cl fp) J W0 ifs tt)
    (he : ∀ s H C cl fp, FE (Blk X scope s H C cl fp) J W0 elt fe) (hsw : swapsWith (.ListComp elt [⟨tg, iter, ifs, 0⟩] scope pos) (some (.Name y py)) spos.line X.env = pure true) (hy : X.N[i]? = some y := by rfl) (hyl : X.env.scope.names.lookup y = some .local := by rfl)
    (hsub : ∀ i ∈ is, i ∈ own.map (·.2) := by decide) (hs : ∀ x, foldedSetIterable iter X.env x = pure x := by intro _; rfl) :
    FS X J W (.Assign [.Name y py] (.ListComp elt [⟨tg, iter, ifs, 0⟩] scope pos) spos) (sSet i (fLc (own.map (·.2)) f g tt fe)) := by
  obtain ⟨wi, pi, si⟩ := hi
  obtain ⟨tG, tT, tE, pg, pt, pe, sg, sT, sE⟩ := lc_parts hg ht he
  exact ⟨_, ps_setLc hc hN hy hyl hsw pi ok pg pt pe hs, sim_set (sim_lc hsub si sg sT sE)⟩
end
end Fx

namespace Fx
open PySem PySem.Spec PyProof.Rows L2
/-! ### operations on data -/
section
variable {K : PySem.W.Frag} {S H : Hp} {v : V}
theorem RpB.int {i : Int} (h : RpB K S H v (.int i)) : v = .int i := by cases (show Rp K S v (.int i) from h); rfl
theorem RpB.bl {i : Bool} (h : RpB K S H v (.bool i)) : v = .bl i := by cases (show Rp K S v (.bool i) from h); rfl
theorem RpB.str {i : Str} (h : RpB K S H v (.str i)) : v = .str i := by cases (show Rp K S v (.str i) from h); rfl
theorem RpB.non (h : RpB K S H v .none) : v = .non := by cases (show Rp K S v .none from h); rfl
theorem RpB.tup {ds : List D} (h : RpB K S H v (.tuple ds)) : ∃ a xs, v = .ref a ∧ SqT K S a xs ∧ Plain K S a ∧ Rps K S xs ds := by
  cases (show Rp K S v (.tuple ds) from h) with
  | tup q p r => exact ⟨_, _, rfl, q, p, r⟩
theorem RpB.lst {ds : List D} (h : RpB K S H v (.list ds)) : ∃ a xs, v = .ref a ∧ H a = some (.lst xs) ∧ Rps K S xs ds := h
end
def hInt2 (C : Int → Int → Bool) (g : Int → Int → D) : D → D → Option Rv
  | .int i, .int j => bif C i j then some (.val (g i j)) else none
  | _, _ => none
section
variable {X : Cx}
theorem hInt2_inv {C : Int → Int → Bool} {g : Int → Int → D} {d e : D} {rv : Rv} (h : hInt2 C g d e = some rv) : ∃ i j, d = .int i ∧ e = .int j ∧ C i j = true ∧ rv = .val (g i j) := by
  unfold hInt2 at h
  split at h
  · rename_i i j
    cases hc : C i j with
    | true => rw [hc] at h; cases h; exact ⟨i, j, rfl, rfl, hc, rfl⟩
    | false => rw [hc] at h; cases h
  · cases h
theorem op2_int {C : Int → Int → Prop} {c : Int → Int → Bool} {g : Int → Int → Int} (hc : ∀ i j, c i j = true → C i j) : Op2 X (L2.rI C fun i j => V.int (g i j)) (hInt2 c fun i j => .int (g i j)) := by
  intro J σ fs H S x y d e rv Q R rx ry h p
  obtain ⟨i, j, rfl, rfl, q, rfl⟩ := hInt2_inv h
  exact ⟨i, j, rx.int, ry.int, hc i j q, p.here R (Rp.int _)⟩
theorem op2_int0 {g : Int → Int → Int} : Op2 X (rI0 fun i j => V.int (g i j)) (hInt2 (fun _ _ => true) fun i j => .int (g i j)) := by
  intro J σ fs H S x y d e rv Q R rx ry h p
  obtain ⟨i, j, rfl, rfl, q, rfl⟩ := hInt2_inv h
  exact ⟨i, j, rx.int, ry.int, p.here R (Rp.int _)⟩
theorem op2_intB {g : Int → Int → Bool} : Op2 X (rI0 fun i j => V.bl (g i j)) (hInt2 (fun _ _ => true) fun i j => .bool (g i j)) := by
  intro J σ fs H S x y d e rv Q R rx ry h p
  obtain ⟨i, j, rfl, rfl, q, rfl⟩ := hInt2_inv h
  exact ⟨i, j, rx.int, ry.int, p.here R (Rp.bl _)⟩

/-! a new tuple, its object known -/
theorem Inv.tnew {pins : List (Addr × Obj)} {s : Shared} {σ : St} {H : Hp} {xs : List V} {us : List Value} {t' : Nat} (I : Inv X pins σ H s) (r : Vals xs us) (hz : xs.length ≤ sizeLine) :
    Inv X pins σ (upd H s.heap.objs.size (.frz { cls := .type "tuple", data := .seq us.toArray } (.tup xs))) { s with heap := s.heap.push { cls := .type "tuple", data := .seq us.toArray }, toks := t' } := by
  have hg := Heap.get?_push_size s.heap (o := ({ cls := .type "tuple", data := .seq us.toArray } : Obj)) rfl
  exact I.laid (fun b u e => Heap.get?_push_of_some _ e) (Nat.le_refl _) ⟨hg, hz, us, r, ⟨_, hg, rfl, _, rfl⟩⟩
/-- the new tuple is handed on -/
abbrev NewT (xs : List V) (H : Hp) (Q : VK) : Prop := ∀ p o, H p = none → o.dict = none → Q (.ref p) (upd H p (.frz o (.tup xs)))
theorem NewT.ep {pins : List (Addr × Obj)} {s : Shared} {σ : St} {H : Hp} {xs : List V} {us : List Value} {t' : Nat} {Q : VK} (q : NewT xs H Q) (I : Inv X pins σ H s) (r : Vals xs us) (hz : xs.length ≤ sizeLine) :
    EP X pins σ Q (.ref s.heap.objs.size) { s with heap := s.heap.push { cls := .type "tuple", data := .seq us.toArray }, toks := t' } :=
  ⟨.ref s.heap.objs.size, _, Inv.tnew I r hz, rfl, q _ _ (I.hok.fresh (Nat.le_refl _)) rfl⟩

/-! `+` -/
def hAdd : D → D → Option Rv
  | .int i, .int j => some (.val (.int (i + j)))
  | .list a, .list b => if a.length + b.length ≤ sizeLine then some (.fresh (.list (a ++ b))) else none
  | .tuple a, .tuple b => if a.length + b.length ≤ sizeLine then some (.val (.tuple (a ++ b))) else none
  | .str a, .str b => if a.length + b.length ≤ sizeLine then some (.val (.str (a ++ b))) else none
  | _, _ => none
def rCatF (K : PySem.W.Frag) : R2 := fun x y H Q => ∃ a b xs ys, x = .ref a ∧ y = .ref b ∧ SqT K H a xs ∧ SqT K H b ys ∧ xs.length + ys.length ≤ sizeLine ∧
  (xs = [] → Q (.ref b) H) ∧ (ys = [] → Q (.ref a) H) ∧ NewT (xs ++ ys) H Q
theorem op_catF : OpR X (binaryOp .Add) (rCatF X.K) := by
  intro pins s σ H x y v u Q I rx ry h
  obtain ⟨a, b, xs, ys, rfl, rfl, ha, hb, hz, q0, q1, q2⟩ := h
  cases rx
  cases ry
  obtain ⟨its, r1, p1, _⟩ := I.tuple ha
  obtain ⟨its2, r2, p2, _⟩ := I.tuple hb
  by_cases hx : its = []
  · subst hx
    exact cat_tup0 p1 p2 ⟨.ref b, H, I, rfl, q0 (r1.nil_iff.mp rfl)⟩
  · refine HT.cat_tup p1 p2 hx (fun z => ⟨.ref a, H, I, rfl, q1 (r2.nil_iff.mp z)⟩) (fun z => ?_) (by rw [← r1.length, ← r2.length]; exact hz)
    exact NewT.ep q2 I (r1.append r2) (by rw [List.length_append]; exact hz)
abbrev rAddU (K : PySem.W.Frag) : R2 := fun x y H Q => rI0 (fun i j => .int (i + j)) x y H Q ∨ (rCat x y H Q ∨ (rCatF K x y H Q ∨ ∃ i j, x = .str i ∧ y = .str j ∧ i.length + j.length ≤ sizeLine ∧ Q (.str (i ++ j)) H))
theorem op_addU : OpR X (binaryOp .Add) (rAddU X.K) := op_add.or (op_cat.or (op_catF.or op_add_str))
theorem Rps.nil_iff {K : PySem.W.Frag} {S : Hp} {xs : List V} {ds : List D} (r : Rps K S xs ds) : xs = [] ↔ ds = [] := by cases r <;> simp
theorem op2_add : Op2 X (rAddU X.K) hAdd := by
  intro J σ fs H S x y d e rv Q R rx ry h p
  unfold hAdd at h
  split at h
  · cases h
    exact .inl ⟨_, _, rx.int, ry.int, p.here R (Rp.int _)⟩
  · split at h
    · rename_i hz
      cases h
      obtain ⟨a, xs, rfl, ha, ra⟩ := rx.lst
      obtain ⟨b, ys, rfl, hb, rb⟩ := ry.lst
      exact .inr (.inl ⟨a, b, xs, ys, rfl, rfl, ha, hb, by rw [ra.length, rb.length]; exact hz, fun l hl => p.newL R (ra.append rb) hl⟩)
    · cases h
  · split at h
    · rename_i hz
      cases h
      obtain ⟨a, xs, rfl, ha, pa, ra⟩ := rx.tup
      obtain ⟨b, ys, rfl, hb, pb, rb⟩ := ry.tup
      refine .inr (.inr (.inl ⟨a, b, xs, ys, rfl, rfl, Same.seqT R.sub ha, Same.seqT R.sub hb, by rw [ra.length, rb.length]; exact hz, fun e => ?_, fun e => ?_, fun l o hl hd => p.newT R (ra.append rb) hl hd⟩))
      · have := ra.nil_iff.mp e
        subst this
        exact p.here R (Rp.tup hb pb rb)
      · have := rb.nil_iff.mp e
        subst this
        rw [List.append_nil] at p
        exact p.here R (Rp.tup ha pa ra)
    · cases h
  · split at h
    · rename_i hz
      cases h
      exact .inr (.inr (.inr ⟨_, _, rx.str, ry.str, hz, p.here R (Rp.str _)⟩))
    · cases h
  · cases h

/-! `*` -/
def mulOk (a b : Int) : Bool := !(decide (Builtin.Int.intBits a > shortFactorBits) && decide (Builtin.Int.intBits b > shortFactorBits) && Builtin.Int.intTooBig (Builtin.Int.intBits a + Builtin.Int.intBits b))
theorem op_mulAll : OpR X (binaryOp .Mult) (L2.rI (fun i j => mulOk i j = true) fun i j => V.int (i * j)) := opI fun i j _ _ _ _ _ hc q => mul_int q (by
  unfold IntMulOk
  unfold mulOk at hc
  rw [Bool.not_eq_true'] at hc
  rw [hc]
  exact Bool.false_ne_true)
def hMul : D → D → Option Rv
  | .int i, .int j => bif mulOk i j then some (.val (.int (i * j))) else none
  | .list a, .int k => if 0 ≤ k ∧ k < 2 ^ 63 ∧ a.length * k.toNat ≤ sizeLine then some (.fresh (.list (List.replicate k.toNat a).flatten)) else none
  | .tuple a, .int k => if 2 ≤ k ∧ k ≤ 1000 ∧ a ≠ [] ∧ a.length ≤ 1000 then some (.val (.tuple (List.replicate k.toNat a).flatten)) else none
  | _, _ => none
end
end Fx

namespace Fx
open PySem PySem.Spec PyProof.Rows L2
section
variable {X : Cx}
/-! // % - -/
def hSub : D → D → Option Rv := hInt2 (fun _ _ => true) fun i j => .int (i - j)
theorem op2_sub : Op2 X (rI0 fun i j => V.int (i - j)) hSub := op2_int0
def divOk (i j : Int) : Bool := j != 0 && decide (j.natAbs.log2 < 9000)
theorem op_fdivAll : OpR X (binaryOp .FloorDiv) (L2.rI (fun i j => divOk i j = true) fun i j => V.int (i.fdiv j)) := opI fun i j _ _ _ _ _ hc q => by
  unfold divOk at hc
  rw [Bool.and_eq_true] at hc
  exact floordiv_int (by simpa using hc.1) q (.inl (PyProof.noPylong_of_log2 (of_decide_eq_true hc.2)))
def hFdiv : D → D → Option Rv := hInt2 divOk fun i j => .int (i.fdiv j)
theorem op2_fdiv : Op2 X (L2.rI (fun i j => divOk i j = true) fun i j => V.int (i.fdiv j)) hFdiv := op2_int fun _ _ h => h
def hMod : D → D → Option Rv := hInt2 (fun _ j => j != 0) fun i j => .int (i.fmod j)
theorem op2_mod : Op2 X (L2.rI (fun _ j => j ≠ 0) fun i j => V.int (i.fmod j)) hMod := op2_int fun _ j h => by simpa using h
def powOk (i j : Int) : Bool := decide (0 ≤ j) && decide (j ≤ 1000000) && decide (i.natAbs < 2 ^ 64)
def hPow : D → D → Option Rv := hInt2 powOk fun i j => .int (i ^ j.toNat)
theorem op2_pow : Op2 X (L2.rI CPow fun i j => V.int (i ^ j.toNat)) hPow := op2_int fun i j h => by
  unfold powOk at h
  rw [Bool.and_eq_true, Bool.and_eq_true] at h
  exact ⟨of_decide_eq_true h.1.1, of_decide_eq_true h.1.2, of_decide_eq_true h.2⟩
abbrev rMulU (K : PySem.W.Frag) : R2 := fun x y H Q => L2.rI (fun i j => mulOk i j = true) (fun i j => .int (i * j)) x y H Q ∨ rRep x y H Q
theorem op_mulU : OpR X (binaryOp .Mult) (rMulU X.K) := op_mulAll.or op_rep
theorem Rps.rep {K : PySem.W.Frag} {S : Hp} {xs : List V} {ds : List D} (h : Rps K S xs ds) : ∀ k : Nat, Rps K S (List.replicate k xs).flatten (List.replicate k ds).flatten
  | 0 => .nil
  | k + 1 => by
    rw [List.replicate_succ, List.replicate_succ, List.flatten_cons, List.flatten_cons]
    exact Rps.append h (Rps.rep h k)
def hMulL : D → D → Option Rv
  | .int i, .int j => bif mulOk i j then some (.val (.int (i * j))) else none
  | .list a, .int k => if 0 ≤ k ∧ k < 2 ^ 63 ∧ a.length * k.toNat ≤ sizeLine then some (.fresh (.list (List.replicate k.toNat a).flatten)) else none
  | _, _ => none
theorem op2_mul : Op2 X (rMulU X.K) hMulL := by
  intro J σ fs H S x y d e rv Q R rx ry h p
  unfold hMulL at h
  split at h
  · rename_i i j
    cases hc : mulOk i j with
    | true => rw [hc] at h; cases h; exact .inl ⟨_, _, rx.int, ry.int, hc, p.here R (Rp.int _)⟩
    | false => rw [hc] at h; cases h
  · rename_i a k
    split at h
    · rename_i hz
      cases h
      obtain ⟨l, xs, rfl, ha, ra⟩ := rx.lst
      exact .inr ⟨l, k, xs, rfl, ry.int, ha, by omega, hz.2.1, by rw [ra.length]; exact hz.2.2, fun l hl => p.newL R (ra.rep _) hl⟩
    · cases h
  · cases h
/-! < <= > >= of ints -/
def hLt : D → D → Option Rv := hInt2 (fun _ _ => true) fun i j => .bool (decide (i < j))
def hLe : D → D → Option Rv := hInt2 (fun _ _ => true) fun i j => .bool (decide (i ≤ j))
def hGt : D → D → Option Rv := hInt2 (fun _ _ => true) fun i j => .bool (decide (j < i))
def hGe : D → D → Option Rv := hInt2 (fun _ _ => true) fun i j => .bool (decide (j ≤ i))
theorem op2_lt : Op2 X (rI0 fun i j => V.bl (decide (i < j))) hLt := op2_intB
theorem op2_le : Op2 X (rI0 fun i j => V.bl (decide (i ≤ j))) hLe := op2_intB
theorem op2_gt : Op2 X (rI0 fun i j => V.bl (decide (j < i))) hGt := op2_intB
theorem op2_ge : Op2 X (rI0 fun i j => V.bl (decide (j ≤ i))) hGe := op2_intB
/-! - x -/
def hNeg : D → Option Rv
  | .int i => some (.val (.int (-i)))
  | _ => none
theorem op1_neg : Op1 X (rU fun i => V.int (-i)) hNeg := by
  intro J σ fs H S x d rv Q R rx h p
  unfold hNeg at h
  split at h
  · cases h; exact ⟨_, rx.int, p.here R (Rp.int _)⟩
  · cases h

/-! == at any depth -/
mutual
theorem Rp.dp {K : PySem.W.Frag} {S H : Hp} (sub : Same S H) : ∀ {v : V} {d : D}, Rp K S v d → d.canLay0 = true → Dp K H v d
  | _, _, .non, _ => .non
  | _, _, .bl b, _ => .bl b
  | _, _, .int i, _ => .int i
  | _, _, .str x, _ => .str x
  | _, _, .lst q r, h => .lst (SqL.of (sub _ _ q)) (Rps.dp sub r (by simpa [PyData.canLay0] using h))
  | _, _, .scr _ _, h => by simp [PyData.canLay0] at h
  | _, _, .tup q p r, h => .tup (Same.seqT sub q) (Rps.dp sub r (by simpa [PyData.canLay0] using h))
  | _, _, .dct _ _, h => by simp [PyData.canLay0] at h
theorem Rps.dp {K : PySem.W.Frag} {S H : Hp} (sub : Same S H) : ∀ {v : List V} {d : List D}, Rps K S v d → PyData.canLayAll0 d = true → DpAll K H v d
  | _, _, .nil, _ => .nil
  | _, _, .cons r t, h => by
    simp only [PyData.canLayAll0, Bool.and_eq_true] at h
    exact .cons (Rp.dp sub r h.1) (Rps.dp sub t h.2)
end
theorem RpB.dp {K : PySem.W.Frag} {S H : Hp} (sub : Same S H) {v : V} {d : D} (h : RpB K S H v d) (c : SeqAt.shaped d = true) : Dp K H v d := by
  have c0 := SeqAt.canLay_of_shaped c
  cases d with
  | list ds =>
    obtain ⟨a, xs, rfl, q, r⟩ := h
    exact .lst (SqL.of q) (r.dp sub (by simpa [PyData.canLay0] using c0))
  | dict ds => simp [PyData.canLay0] at c0
  | none => exact Rp.dp sub h c0
  | bool b => exact Rp.dp sub h c0
  | int i => exact Rp.dp sub h c0
  | str x => exact Rp.dp sub h c0
  | tuple ds => exact Rp.dp sub h c0
def hEq (d e : D) : Option Rv := bif SeqAt.shaped d && SeqAt.shaped e then some (.val (.bool (PyData.eqv d e))) else none
def hNe (d e : D) : Option Rv := bif SeqAt.shaped d && SeqAt.shaped e then some (.val (.bool (!PyData.eqv d e))) else none
theorem op2_eq : Op2 X (rEqD X.K) hEq := by
  intro J σ fs H S x y d e rv Q R rx ry h p
  unfold hEq at h
  cases c : SeqAt.shaped d && SeqAt.shaped e with
  | false => rw [c] at h; cases h
  | true =>
    rw [c] at h
    cases h
    rw [Bool.and_eq_true] at c
    exact ⟨d, e, rx.dp R.sub c.1, ry.dp R.sub c.2, c.1, c.2, p.here R (Rp.bl _)⟩
theorem op2_ne : Op2 X (rNeD X.K) hNe := by
  intro J σ fs H S x y d e rv Q R rx ry h p
  unfold hNe at h
  cases c : SeqAt.shaped d && SeqAt.shaped e with
  | false => rw [c] at h; cases h
  | true =>
    rw [c] at h
    cases h
    rw [Bool.and_eq_true] at c
    exact ⟨d, e, rx.dp R.sub c.1, ry.dp R.sub c.2, c.1, c.2, p.here R (Rp.bl _)⟩
/-! in -/
def flatD : D → Bool
  | .none => true
  | .bool _ => true
  | .int _ => true
  | .str _ => true
  | _ => false
theorem flatV_of {K : PySem.W.Frag} {S : Hp} {v : V} {d : D} (r : Rp K S v d) (h : flatD d = true) : flatV v = true := by
  cases r <;> first | rfl | (exact absurd h (by simp [flatD]))
theorem eqV_of {K : PySem.W.Frag} {S S' : Hp} {v u : V} {d e : D} (r : Rp K S v d) (q : Rp K S' u e) (h : flatD d = true) (h' : flatD e = true) : eqV v u = PyData.eqv d e := by
  cases r with
  | non => cases q <;> simp_all [eqV, PyData.eqv, flatD]
  | bl b => cases q <;> simp_all [eqV, PyData.eqv, flatD]
  | int i => cases q <;> simp_all [eqV, PyData.eqv, flatD]
  | str x => cases q <;> simp_all [eqV, PyData.eqv, flatD]
  | lst _ _ => cases h
  | scr _ _ => cases h
  | tup _ _ _ => cases h
  | dct _ _ => cases h
theorem inV_of {K : PySem.W.Frag} {S S' : Hp} {v : V} {d : D} (q : Rp K S' v d) (h' : flatD d = true) : ∀ {xs : List V} {ds : List D}, Rps K S xs ds → ds.all flatD = true → inV v xs = ds.any (fun z => PyData.eqv z d) ∧ xs.all flatV = true
  | _, _, .nil, _ => ⟨rfl, rfl⟩
  | _, _, .cons r t, h => by
    rw [List.all_cons, Bool.and_eq_true] at h
    obtain ⟨h1, h2⟩ := inV_of q h' t h.2
    refine ⟨?_, by rw [List.all_cons, flatV_of r h.1, h2]; rfl⟩
    show (_ :: _).any _ = _
    rw [List.any_cons, List.any_cons, eqV_of r q h.1 h']
    congr 1
theorem flat_rp {K : PySem.W.Frag} {S H : Hp} {v : V} {d : D} (h : RpB K S H v d) (f : flatD d = true) : Rp K S v d := by
  cases d <;> first | exact h | (exact absurd f (by simp [flatD]))
def hIn (neg : Bool) (d : D) : D → Option Rv
  | .list ds => bif SeqAt.shaped d && SeqAt.shaped (.list ds) then some (.val (.bool (neg != ds.any fun z => PyData.eqv z d))) else none
  | .tuple ds => bif flatD d && ds.all flatD then some (.val (.bool (neg != ds.any fun z => PyData.eqv z d))) else
      bif SeqAt.shaped d && SeqAt.shaped (.tuple ds) then some (.val (.bool (neg != ds.any fun z => PyData.eqv z d))) else none
  | .str s => match d with
    | .str t => some (.val (.bool (neg != !(Builtin.Str.occurrences s t 0 s.length 1).isEmpty)))
    | _ => none
  | _ => none
def rInT (K : PySem.W.Frag) (neg : Bool) : R2 := fun x y H Q => ∃ d ds, Dp K H x d ∧ Dp K H y (.tuple ds) ∧ SeqAt.shaped d = true ∧ SeqAt.shaped (.tuple ds) = true ∧ Q (.bl (neg != ds.any fun z => PyData.eqv z d)) H
theorem op_inT (hu : X.A.units + 65 < cLine) : OpR X (compareOp .In) (rInT X.K false) := by
  intro pins s σ H x y v u Q I rx ry h
  obtain ⟨d, ds, hd, he, sd, se, q⟩ := h
  obtain ⟨as, r1⟩ := Dp.reads I d x v hd rx
  obtain ⟨bs, r2⟩ := Dp.reads I (.tuple ds) y u he ry
  exact SeqAt.in_tuple_reads r2 r1 (SeqAt.canLay_of_shaped se) (SeqAt.canLay_of_shaped sd) (room_in_shaped sd hu) ⟨.bl _, H, I, rfl, by rw [Bool.false_bne] at q; exact q⟩
theorem op_notInT (hu : X.A.units + 65 < cLine) : OpR X (compareOp .NotIn) (rInT X.K true) := by
  intro pins s σ H x y v u Q I rx ry h
  obtain ⟨d, ds, hd, he, sd, se, q⟩ := h
  obtain ⟨as, r1⟩ := Dp.reads I d x v hd rx
  obtain ⟨bs, r2⟩ := Dp.reads I (.tuple ds) y u he ry
  exact SeqAt.notIn_tuple_reads r2 r1 (SeqAt.canLay_of_shaped se) (SeqAt.canLay_of_shaped sd) (room_in_shaped sd hu) ⟨.bl _, H, I, rfl, by rw [Bool.true_bne] at q; exact q⟩
abbrev rInU (K : PySem.W.Frag) : R2 := fun x y H Q => (rInD K x y H Q ∨ rInT K false x y H Q) ∨ (rIn K false x y H Q ∨ ∃ i j, x = .str i ∧ y = .str j ∧ Q (.bl (!(Builtin.Str.occurrences j i 0 j.length 1).isEmpty)) H)
abbrev rNotInU (K : PySem.W.Frag) : R2 := fun x y H Q => (rNotInD K x y H Q ∨ rInT K true x y H Q) ∨ (rIn K true x y H Q ∨ ∃ i j, x = .str i ∧ y = .str j ∧ Q (.bl (!(!(Builtin.Str.occurrences j i 0 j.length 1).isEmpty))) H)
theorem op_inU (hu : X.A.units + 65 < cLine) : OpR X (compareOp .In) (rInU X.K) := ((op_inD hu).or (op_inT hu)).or (op_in_seq.or op_in_str)
theorem op_notInU (hu : X.A.units + 65 < cLine) : OpR X (compareOp .NotIn) (rNotInU X.K) := ((op_notInD hu).or (op_notInT hu)).or (op_notIn_seq.or L2.op_notIn_str)
theorem op2_in : Op2 X (rInU X.K) (hIn false) := by
  intro J σ fs H S x y d e rv Q R rx ry h p
  unfold hIn at h
  split at h
  · rename_i ds
    cases c : SeqAt.shaped d && SeqAt.shaped (.list ds) with
    | false => rw [c] at h; cases h
    | true =>
      rw [c] at h
      cases h
      rw [Bool.and_eq_true] at c
      exact .inl (.inl ⟨d, ds, rx.dp R.sub c.1, ry.dp R.sub c.2, c.1, c.2, p.here R (by rw [Bool.false_bne]; exact Rp.bl _)⟩)
  · rename_i ds
    cases c : flatD d && ds.all flatD with
    | false =>
      rw [c] at h
      cases c2 : SeqAt.shaped d && SeqAt.shaped (.tuple ds) with
      | false => rw [c2] at h; cases h
      | true =>
        rw [c2] at h
        cases h
        rw [Bool.and_eq_true] at c2
        exact .inl (.inr ⟨d, ds, rx.dp R.sub c2.1, ry.dp R.sub c2.2, c2.1, c2.2, p.here R (Rp.bl _)⟩)
    | true =>
      rw [c] at h
      cases h
      rw [Bool.and_eq_true] at c
      obtain ⟨a, xs, rfl, qa, _, ra⟩ := ry.tup
      have rx' := flat_rp rx c.1
      obtain ⟨e1, e2⟩ := inV_of rx' c.1 ra c.2
      exact .inr (.inl ⟨a, xs, rfl, .inr (Same.seqT R.sub qa), flatV_of rx' c.1, e2, p.here R (by rw [Bool.false_bne, if_neg Bool.false_ne_true, e1]; exact Rp.bl _)⟩)
  · split at h
    · cases h
      exact .inr (.inr ⟨_, _, rx.str, ry.str, p.here R (by rw [Bool.false_bne]; exact Rp.bl _)⟩)
    · cases h
  · cases h
theorem op2_notIn : Op2 X (rNotInU X.K) (hIn true) := by
  intro J σ fs H S x y d e rv Q R rx ry h p
  unfold hIn at h
  split at h
  · rename_i ds
    cases c : SeqAt.shaped d && SeqAt.shaped (.list ds) with
    | false => rw [c] at h; cases h
    | true =>
      rw [c] at h
      cases h
      rw [Bool.and_eq_true] at c
      exact .inl (.inl ⟨d, ds, rx.dp R.sub c.1, ry.dp R.sub c.2, c.1, c.2, p.here R (by rw [Bool.true_bne]; exact Rp.bl _)⟩)
  · rename_i ds
    cases c : flatD d && ds.all flatD with
    | false =>
      rw [c] at h
      cases c2 : SeqAt.shaped d && SeqAt.shaped (.tuple ds) with
      | false => rw [c2] at h; cases h
      | true =>
        rw [c2] at h
        cases h
        rw [Bool.and_eq_true] at c2
        exact .inl (.inr ⟨d, ds, rx.dp R.sub c2.1, ry.dp R.sub c2.2, c2.1, c2.2, p.here R (Rp.bl _)⟩)
    | true =>
      rw [c] at h
      cases h
      rw [Bool.and_eq_true] at c
      obtain ⟨a, xs, rfl, qa, _, ra⟩ := ry.tup
      have rx' := flat_rp rx c.1
      obtain ⟨e1, e2⟩ := inV_of rx' c.1 ra c.2
      exact .inr (.inl ⟨a, xs, rfl, .inr (Same.seqT R.sub qa), flatV_of rx' c.1, e2, p.here R (by rw [Bool.true_bne, if_pos rfl, e1]; exact Rp.bl _)⟩)
  · split at h
    · cases h
      exact .inr (.inr ⟨_, _, rx.str, ry.str, p.here R (by rw [Bool.true_bne]; exact Rp.bl _)⟩)
    · cases h
  · cases h
/-! is None, is True -/
def isNone : D → Bool
  | .none => true
  | _ => false
def hIs (neg : Bool) (d e : D) : Option Rv := match e with
  | .none => some (.val (.bool (neg != isNone d)))
  | .bool b => match d with
    | .bool a => some (.val (.bool (neg != (a == b))))
    | _ => none
  | _ => none
theorem isNone_of {K : PySem.W.Frag} {S H : Hp} {v : V} {d : D} (h : RpB K S H v d) : decide (v = .non) = isNone d := by
  cases d with
  | none => rw [h.non]; rfl
  | bool b => rw [h.bl]; rfl
  | int i => rw [h.int]; rfl
  | str x => rw [h.str]; rfl
  | list ds => obtain ⟨a, xs, rfl, _⟩ := h.lst; rfl
  | tuple ds => obtain ⟨a, xs, rfl, _⟩ := h.tup; rfl
  | dict ds =>
    rcases h with ⟨a, xs, rfl, _⟩ | ⟨a, xs, es, rfl, _⟩ <;> rfl
abbrev rIsU : R2 := fun x y H Q => (y = .non ∧ Q (.bl (decide (x = .non))) H) ∨ rIsB x y H Q
abbrev rIsNotU : R2 := fun x y H Q => (y = .non ∧ Q (.bl (!decide (x = .non))) H) ∨ rNotB x y H Q
theorem op_isU : OpR X (compareOp .Is) rIsU := op_isN.or op_isBl
theorem op_isNotU : OpR X (compareOp .IsNot) rIsNotU := op_notN.or op_notBl
theorem op2_is : Op2 X rIsU (hIs false) := by
  intro J σ fs H S x y d e rv Q R rx ry h p
  unfold hIs at h
  split at h
  · cases h
    exact .inl ⟨ry.non, p.here R (by rw [Bool.false_bne, isNone_of rx]; exact Rp.bl _)⟩
  · split at h
    · cases h
      exact .inr ⟨_, _, rx.bl, ry.bl, p.here R (by rw [Bool.false_bne, Bool.beq_eq_decide_eq]; exact Rp.bl _)⟩
    · cases h
  · cases h
theorem op2_isNot : Op2 X rIsNotU (hIs true) := by
  intro J σ fs H S x y d e rv Q R rx ry h p
  unfold hIs at h
  split at h
  · cases h
    exact .inl ⟨ry.non, p.here R (by rw [Bool.true_bne, isNone_of rx]; exact Rp.bl _)⟩
  · split at h
    · cases h
      exact .inr ⟨_, _, rx.bl, ry.bl, p.here R (by rw [Bool.true_bne, Bool.beq_eq_decide_eq]; exact Rp.bl _)⟩
    · cases h
  · cases h
/-! x[i] -/
def hIx : D → D → Option Rv
  | .list ds, .int i => (atI ds i).map .val
  | .tuple ds, .int i => (atI ds i).map .val
  | .str s, .int i => if s.length ≤ sizeLine then (atI s.cps.toList i).map fun c => .val (.str ⟨#[c]⟩) else none
  | .dict [(.none, .list ds)], .int i => (atI ds i).map .val
  | _, _ => none
theorem Rps.at {K : PySem.W.Frag} {S : Hp} {xs : List V} {ds : List D} {i : Int} {d : D} (r : Rps K S xs ds) (h : atI ds i = some d) : ∃ v, atI xs i = some v ∧ Rp K S v d := by
  unfold atI at h ⊢
  rw [r.length]
  cases e : ixN ds.length i with
  | none => rw [e] at h; cases h
  | some j =>
    rw [e] at h
    exact r.get h
theorem rpd_scr {K : PySem.W.Frag} {S : Hp} {kvs : List (Key × V)} {ds : List (D × D)} {x : D} (h : Rpd K S kvs ds) (e : ds = [(.none, x)]) : False := by
  cases h with
  | nil => cases e
  | cons r t =>
    rename_i k v vs d ds'
    injection e with e1 e2
    injection e1 with e3 e4
    cases k <;> cases e3
theorem op2_ix : Op2 X (rIx X.K) hIx := by
  intro J σ fs H S x y d e rv Q R rx ry h p
  unfold hIx at h
  split at h
  · obtain ⟨d', h1, rfl⟩ := Option.map_eq_some_iff.mp h
    obtain ⟨a, xs, rfl, qa, ra⟩ := rx.lst
    obtain ⟨v, h2, h3⟩ := ra.at h1
    exact .inl ⟨a, xs, _, v, rfl, ry.int, SqL.of qa, h2, p.here R h3⟩
  · obtain ⟨d', h1, rfl⟩ := Option.map_eq_some_iff.mp h
    obtain ⟨a, xs, rfl, qa, _, ra⟩ := rx.tup
    obtain ⟨v, h2, h3⟩ := ra.at h1
    exact .inr (.inl ⟨a, xs, _, v, rfl, ry.int, Same.seqT R.sub qa, h2, p.here R h3⟩)
  · split at h
    · rename_i hz
      obtain ⟨c, h1, rfl⟩ := Option.map_eq_some_iff.mp h
      exact .inr (.inr ⟨_, _, c, rx.str, ry.int, hz, h1, p.here R (Rp.str _)⟩)
    · cases h
  · obtain ⟨d', h1, rfl⟩ := Option.map_eq_some_iff.mp h
    rcases rx with ⟨a, kvs, rfl, _, r⟩ | ⟨a, xs, es, rfl, e1, qa, ra⟩
    · exact (rpd_scr r rfl).elim
    · cases e1
      obtain ⟨v, h2, h3⟩ := ra.at h1
      exact .inl ⟨a, xs, _, v, rfl, ry.int, qa, h2, p.here R h3⟩
  · cases h
end
section
variable {X : Cx} {J : Inf} {W : WX} {a b : Expr} {f g : M Rv} {pos : Pos}
theorem fe_ix (ha : FE X J W a f) (hb : FE X J W b g) (hs : PlainIx b := by intro _ _; rfl) : FE X J W (.Subscript a b pos) (fBin hIx f g) := by
  obtain ⟨ta, pa, sa⟩ := ha
  obtain ⟨tb, pb, sb⟩ := hb
  exact ⟨_, pe_ix ix_seq pa pb hs, sim_op2 op2_ix sa sb⟩
end
end Fx

namespace Fx
open PySem PySem.Spec PyProof.Rows L2
/-! ### slices -/
abbrev rO : RT (Option Int) (Option Int) := fun _ _ _ _ _ b a => b = a
instance : Early rO := ⟨fun _ r => r⟩
def FO (X : Cx) (J : Inf) (W : WX) (e : Option Expr) (f : M (Option Int)) : Prop := ∃ t, PO X e t ∧ Sim X.K J X.mg W t rO f
def oNone : M (Option Int) := rt none
def oSome (f : M Rv) : M (Option Int) := bnd f fun r fs => match r with
  | .val (.int i) => some (.inr (some i), fs)
  | _ => none
def cutL {α : Type} (xs : List α) (lo hi : Option Int) : List α := (xs.drop (HT.sIx xs.length 0 lo)).take (HT.sIx xs.length xs.length hi - HT.sIx xs.length 0 lo)
def hSl (lo hi : Option Int) : D → Option Rv
  | .list ds => some (.fresh (.list (cutL ds lo hi)))
  | .tuple ds => some (.val (.tuple (cutL ds lo hi)))
  | .str z => if z.length ≤ sizeLine then some (.val (.str (cutS z lo hi))) else none
  | _ => none
def fSl (f : M Rv) (g h : M (Option Int)) : M Rv := bnd f fun x => bnd g fun lo => bnd h fun hi => rd1 (hSl lo hi) x
theorem Rps.cut {K : PySem.W.Frag} {S : Hp} {xs : List V} {ds : List D} (r : Rps K S xs ds) (lo hi : Option Int) : Rps K S (cutV xs lo hi) (cutL ds lo hi) := by
  unfold cutV cutL
  rw [r.length]
  exact (r.drop _).take _
def rSlF (K : PySem.W.Frag) : V → Option Int → Option Int → Hp → VK → Prop := fun x lo hi H Q => ∃ a xs, x = .ref a ∧ SqT K H a xs ∧
  (HT.sIx xs.length 0 lo = 0 ∧ HT.sIx xs.length xs.length hi = xs.length → Q (.ref a) H) ∧ (¬ (HT.sIx xs.length 0 lo = 0 ∧ HT.sIx xs.length xs.length hi = xs.length) → NewT (cutV xs lo hi) H Q)
section
variable {X : Cx} {J : Inf} {W : WX} {e a b : Expr} {es : List Expr} {lo hi : Option Expr} {f g : M Rv} {fl fh : M (Option Int)} {pos p2 : Pos}
theorem fo_none : FO X J W none oNone := ⟨_, po_none, fun σ H S fs Q res fs' R e p => by cases e; exact p.here R rfl⟩
theorem fo_some (h : FE X J W e f) : FO X J W (some e) (oSome f) := by
  obtain ⟨t, p, s⟩ := h
  refine ⟨_, po_some p, fun σ H S fs Q res fs' R e p => ?_⟩
  refine s.bind R e p fun r fs1 v H1 S1 R1 r1 e1 p1 _ _ => ?_
  try dsimp only at e1
  split at e1
  · rename_i i
    cases e1
    cases (show Rp X.K S1 v (.int i) from r1)
    exact ⟨i, rfl, p1.here R1 rfl⟩
  · cases e1
theorem sl_tupF : SlR X (rSlF X.K) := by
  intro pins s σ H x v vl vu lo hi sl Q I rx hs pl pu h
  obtain ⟨a, xs, rfl, hx, q1, q2⟩ := h
  cases rx
  obtain ⟨its, r, ht, hz⟩ := I.tuple hx
  have hlen : its.toArray.size = xs.length := by rw [List.size_toArray]; exact r.length.symm
  refine ⟨"tuple", _, PyProof.Rows.slot_tuple_getitem.lookup, ht.typeIs, ?_⟩
  by_cases hw : HT.sIx xs.length 0 lo = 0 ∧ HT.sIx xs.length xs.length hi = xs.length
  · exact getItem_tuple_whole ht hs pl pu (by rw [hlen]; exact hw) ⟨.ref a, H, I, rfl, q1 hw⟩
  · refine HT.getItem_tuple_cut ht hs pl pu (by rw [hlen]; exact hw) ?_ (by rw [hlen]; exact hz)
    rw [hlen]
    exact NewT.ep (q2 hw) I ((r.drop _).take _) (Nat.le_trans (cutV_length xs lo hi) hz)
abbrev rSlU (K : PySem.W.Frag) : V → Option Int → Option Int → Hp → VK → Prop := fun x lo hi H Q => rSlL K x lo hi H Q ∨ (rSlF K x lo hi H Q ∨ rSlS x lo hi H Q)
theorem sl_any : SlR X (rSlU X.K) := sl_list.or (sl_tupF.or sl_str)
theorem cut_whole {α : Type} {xs : List α} {lo hi : Option Int} (h : HT.sIx xs.length 0 lo = 0 ∧ HT.sIx xs.length xs.length hi = xs.length) : cutL xs lo hi = xs := by
  unfold cutL
  rw [h.1, h.2]
  simp
theorem op1_sl {lo hi : Option Int} : Op1 X (fun x H Q => rSlU X.K x lo hi H Q) (hSl lo hi) := by
  intro J σ fs H S x d rv Q R rx h p
  unfold hSl at h
  split at h
  · cases h
    obtain ⟨a, xs, rfl, qa, ra⟩ := rx.lst
    exact .inl ⟨a, xs, rfl, SqL.of qa, fun l hl => p.newL R (ra.cut lo hi) hl⟩
  · cases h
    obtain ⟨a, xs, rfl, qa, pa, ra⟩ := rx.tup
    refine .inr (.inl ⟨a, xs, rfl, Same.seqT R.sub qa, fun hw => ?_, fun _ l o hl hd => p.newT R (ra.cut lo hi) hl hd⟩)
    rw [ra.length] at hw
    rw [cut_whole hw] at p
    exact p.here R (Rp.tup qa pa ra)
  · split at h
    · rename_i hz
      cases h
      exact .inr (.inr ⟨_, rx.str, hz, p.here R (Rp.str _)⟩)
    · cases h
  · cases h
theorem fe_slice (he : FE X J W e f) (hl : FO X J W lo fl) (hu : FO X J W hi fh) : FE X J W (.Subscript e (.Slice lo hi none p2) pos) (fSl f fl fh) := by
  obtain ⟨te, pe, se⟩ := he
  obtain ⟨tl, pl, sl⟩ := hl
  obtain ⟨th, ph, sh⟩ := hu
  refine ⟨_, pe_slice sl_any pe pl ph, fun σ H S fs Q res fs' R e p => ?_⟩
  refine se.bind R e p fun rx fs1 x H1 S1 R1 r1 e1 p1 st1 sh1 => ?_
  refine sl.bind R1 e1 p1 fun lo fs2 lo' H2 S2 R2 r2 e2 p2 st2 sh2 => ?_
  cases r2
  refine sh.bind R2 e2 p2 fun hi fs3 hi' H3 S3 R3 r3 e3 p3 st3 sh3 => ?_
  cases r3
  exact rd1_run op1_sl R3 ((r1.later st2 sh2).later st3 sh3) e3 p3

/-! ### built-ins by name: the arguments read just then -/
def rdAll (fs : Fs) : List Rv → Option (List D)
  | [] => some []
  | r :: rs => match r.rd fs, rdAll fs rs with
    | some d, some ds => some (d :: ds)
    | _, _ => none
def fNm (h : List D → Option Rv) (f : M (List Rv)) : M Rv := bnd f fun rs fs => match rdAll fs rs with
  | some ds => match h ds with
    | some rv => some (.inr rv, fs)
    | none => none
  | none => none
theorem rdAll_run {σ : St} {fs : Fs} {H S Hs : Hp} (R : Rel X.K J σ H S fs) : ∀ {vs : List V} {rs : List Rv} {ds : List D}, RvsR X.K σ fs Hs H S vs rs → rdAll fs rs = some ds → RpBs X.K S H vs ds
  | _, _, _, .nil, e => by cases e; exact .nil
  | _, _, ds, .cons r t, e => by
    simp only [rdAll] at e
    split at e
    · rename_i d ds' q1 q2
      cases e
      exact .cons (r.rd R q1) (rdAll_run R t q2)
    · cases e
theorem sim_nm {t : TA} {o : List V → Hp → VK → Prop} {h : List D → Option Rv} {fas : M (List Rv)} (ho : OpN X o h) (sa : Sim X.K J X.mg W t (rVs X.K) fas) : Sim X.K J X.mg W (tCB o t) (rV X.K) (fNm h fas) := by
  intro σ H S fs Q res fs' R e p
  refine sa.bind R e p fun rs fs1 vs H1 S1 R1 r1 e1 p1 st1 sh1 => ?_
  try dsimp only at e1
  split at e1
  · rename_i ds q
    split at e1
    · rename_i rv q2
      cases e1
      exact ho J σ _ H1 S1 vs ds rv Q R1 (rdAll_run R1 r1 q) q2 p1.toV
    · cases e1
  · cases e1
theorem fe_callB {x : Str} {p : Pos} {id : String} {o : List V → Hp → VK → Prop} {h : List D → Option Rv} {fas : M (List Rv)} (hc : CallR X (.builtin id) o) (ho : OpN X o h) (hg : Gl X x) (hm : X.mg x = none) (hv : bootBuiltins x = some (.builtin id)) (ha : FA X J W (e :: es) fas)
    (hn : x ≠ "__name__" := by decide) (hdb : (x == ("__debug__" : Str)) = false := by decide)
    (he : starEach (e :: es) X.env = (false, eval e X.env) :: starEach es X.env := by rfl) (hpl : (backTo pos (starEach es X.env)).any (·.1) = false := by rfl) : FE X J W (.Call (.Name x p) (e :: es) [] pos) (fNm h fas) := by
  obtain ⟨t, pa, sa⟩ := ha
  exact ⟨_, pe_callB hc hg hm hv pa hn hdb he hpl, sim_nm ho sa⟩
theorem fe_callTy {x : Str} {p : Pos} {T : String} {o : List V → Hp → VK → Prop} {h : List D → Option Rv} {fas : M (List Rv)} (hc : CallR X (.type T) o) (ho : OpN X o h) (hg : Gl X x) (hm : X.mg x = none) (hv : bootBuiltins x = some (.type T)) (ha : FA X J W (e :: es) fas)
    (hn : x ≠ "__name__" := by decide) (hdb : (x == ("__debug__" : Str)) = false := by decide)
    (he : starEach (e :: es) X.env = (false, eval e X.env) :: starEach es X.env := by rfl) (hpl : (backTo pos (starEach es X.env)).any (·.1) = false := by rfl) : FE X J W (.Call (.Name x p) (e :: es) [] pos) (fNm h fas) := by
  obtain ⟨t, pa, sa⟩ := ha
  exact ⟨_, pe_callTy hc hg hm hv pa hn hdb he hpl, sim_nm ho sa⟩
theorem RpBs.one {K : PySem.W.Frag} {S H : Hp} {vs : List V} {d : D} (h : RpBs K S H vs [d]) : ∃ v, vs = [v] ∧ RpB K S H v d := by
  cases h with
  | cons r t => cases t; exact ⟨_, rfl, r⟩
theorem RpBs.two {K : PySem.W.Frag} {S H : Hp} {vs : List V} {d e : D} (h : RpBs K S H vs [d, e]) : ∃ v u, vs = [v, u] ∧ RpB K S H v d ∧ RpB K S H u e := by
  cases h with
  | cons r t =>
    cases t with
    | cons r' t => cases t; exact ⟨_, _, rfl, r, r'⟩
/-! len -/
def hLen : List D → Option Rv
  | [.list ds] => some (.val (.int ds.length))
  | [.tuple ds] => some (.val (.int ds.length))
  | [.str s] => if s.length ≤ sizeLine then some (.val (.int s.length)) else none
  | [.dict [(.none, .list ds)]] => some (.val (.int ds.length))
  | _ => none
theorem opn_len : OpN X (fun xs H Q => ∃ x n, xs = [x] ∧ LenV X.K x H n ∧ Q (.int n) H) hLen := by
  intro J σ fs H S xs ds rv Q R r h p
  unfold hLen at h
  split at h
  · cases h
    obtain ⟨v, rfl, ry⟩ := r.one
    obtain ⟨a, xs, rfl, qa, ra⟩ := ry.lst
    exact ⟨_, _, rfl, .inl ⟨xs, SqL.of qa, rfl⟩, p.here R (by rw [ra.length]; exact Rp.int _)⟩
  · cases h
    obtain ⟨v, rfl, ry⟩ := r.one
    obtain ⟨a, xs, rfl, qa, _, ra⟩ := ry.tup
    exact ⟨_, _, rfl, .inr ⟨xs, Same.seqT R.sub qa, rfl⟩, p.here R (by rw [ra.length]; exact Rp.int _)⟩
  · split at h
    · rename_i hz
      cases h
      obtain ⟨v, rfl, ry⟩ := r.one
      exact ⟨_, _, rfl, by rw [ry.str]; exact ⟨hz, rfl⟩, p.here R (Rp.int _)⟩
    · cases h
  · cases h
    obtain ⟨v, rfl, ry⟩ := r.one
    rcases ry with ⟨a, kvs, hv, _, rz⟩ | ⟨a, xs, es, rfl, e1, qa, ra⟩
    · exact (rpd_scr rz rfl).elim
    · cases e1
      exact ⟨_, _, rfl, .inl ⟨xs, qa, rfl⟩, p.here R (by rw [ra.length]; exact Rp.int _)⟩
  · cases h
/-! abs, max, min of two, int -/
def hAbs : List D → Option Rv
  | [.int i] => some (.val (.int (if i < 0 then -i else i)))
  | _ => none
theorem opn_abs : OpN X (fun xs H Q => ∃ i, xs = [.int i] ∧ Q (.int (if i < 0 then -i else i)) H) hAbs := by
  intro J σ fs H S xs ds rv Q R r h p
  unfold hAbs at h
  split at h
  · cases h
    obtain ⟨v, rfl, ry⟩ := r.one
    exact ⟨_, by rw [ry.int], p.here R (Rp.int _)⟩
  · cases h
def hMax2 : List D → Option Rv
  | [.int i, .int j] => some (.val (.int (if j > i then j else i)))
  | _ => none
theorem opn_max2 : OpN X (fun xs H Q => ∃ i j, xs = [.int i, .int j] ∧ Q (.int (if j > i then j else i)) H) hMax2 := by
  intro J σ fs H S xs ds rv Q R r h p
  unfold hMax2 at h
  split at h
  · cases h
    obtain ⟨v, u, rfl, ry, rz⟩ := r.two
    exact ⟨_, _, by rw [ry.int, rz.int], p.here R (Rp.int _)⟩
  · cases h
def hMin2 : List D → Option Rv
  | [.int i, .int j] => some (.val (.int (if j < i then j else i)))
  | _ => none
theorem opn_min2 : OpN X (fun xs H Q => ∃ i j, xs = [.int i, .int j] ∧ Q (.int (if j < i then j else i)) H) hMin2 := by
  intro J σ fs H S xs ds rv Q R r h p
  unfold hMin2 at h
  split at h
  · cases h
    obtain ⟨v, u, rfl, ry, rz⟩ := r.two
    exact ⟨_, _, by rw [ry.int, rz.int], p.here R (Rp.int _)⟩
  · cases h
def hInt1 : List D → Option Rv
  | [.int i] => some (.val (.int i))
  | [.bool b] => some (.val (.int (if b then 1 else 0)))
  | _ => none
theorem opn_int1 : OpN X (fun xs H Q => (∃ i, xs = [.int i] ∧ Q (.int i) H) ∨ ∃ k, xs = [.bl k] ∧ Q (.int (if k then 1 else 0)) H) hInt1 := by
  intro J σ fs H S xs ds rv Q R r h p
  unfold hInt1 at h
  split at h
  · cases h
    obtain ⟨v, rfl, ry⟩ := r.one
    exact .inl ⟨_, by rw [ry.int], p.here R (Rp.int _)⟩
  · cases h
    obtain ⟨v, rfl, ry⟩ := r.one
    exact .inr ⟨_, by rw [ry.bl], p.here R (Rp.int _)⟩
  · cases h
/-! list(x), tuple(x) -/
def hList : List D → Option Rv
  | [.list ds] => some (.fresh (.list ds))
  | [.tuple ds] => some (.fresh (.list ds))
  | _ => none
theorem opn_list : OpN X (fun xs H Q => ∃ p ys, xs = [.ref p] ∧ (SqL X.K H p ys ∨ SqT X.K H p ys) ∧ ∀ l, H l = none → Q (.ref l) (upd H l (.lst ys))) hList := by
  intro J σ fs H S xs ds rv Q R r h p
  unfold hList at h
  split at h
  · cases h
    obtain ⟨v, rfl, ry⟩ := r.one
    obtain ⟨a, xs, rfl, qa, ra⟩ := ry.lst
    exact ⟨a, xs, rfl, .inl (SqL.of qa), fun l hl => p.newL R ra hl⟩
  · cases h
    obtain ⟨v, rfl, ry⟩ := r.one
    obtain ⟨a, xs, rfl, qa, _, ra⟩ := ry.tup
    exact ⟨a, xs, rfl, .inr (Same.seqT R.sub qa), fun l hl => p.newL R ra hl⟩
  · cases h
def hTuple : List D → Option Rv
  | [.list ds] => some (.val (.tuple ds))
  | [.tuple ds] => some (.val (.tuple ds))
  | _ => none
def rTupleF (K : PySem.W.Frag) : List V → Hp → VK → Prop := fun xs H Q => ∃ p ys, xs = [.ref p] ∧ ((SqL K H p ys ∧ NewT ys H Q) ∨ (SqT K H p ys ∧ Q (.ref p) H))
theorem call_tupleF : CallR X (.type "tuple") (rTupleF X.K) := by
  intro pins s σ H xs us Q I r h
  obtain ⟨p, ys, rfl, h⟩ := h
  obtain ⟨u, rfl, rx⟩ := vals1 r
  cases rx
  rcases h with ⟨hq, q⟩ | ⟨hq, q⟩
  · obtain ⟨its, r', pl, hz⟩ := I.list hq
    have hlen := r'.length
    refine call_tuple_list pl.isList (fun h' kp => ?_) (by simp only [List.size_toArray] <;> omega)
    have I1 : Inv X pins σ H { s with heap := h' } := I.kept (t' := s.toks) kp
    exact NewT.ep (s := { s with heap := h' }) (t' := s.toks) q I1 r' hz
  · obtain ⟨its, r', pl, hz⟩ := I.tuple hq
    exact call_tuple_same pl ⟨.ref p, H, I, rfl, q⟩
theorem opn_tuple : OpN X (rTupleF X.K) hTuple := by
  intro J σ fs H S xs ds rv Q R r h p
  unfold hTuple at h
  split at h
  · cases h
    obtain ⟨v, rfl, ry⟩ := r.one
    obtain ⟨a, xs, rfl, qa, ra⟩ := ry.lst
    exact ⟨a, xs, rfl, .inl ⟨SqL.of qa, fun l o hl hd => p.newT R ra hl hd⟩⟩
  · cases h
    obtain ⟨v, rfl, ry⟩ := r.one
    obtain ⟨a, xs, rfl, qa, pa, ra⟩ := ry.tup
    exact ⟨a, xs, rfl, .inr ⟨Same.seqT R.sub qa, p.here R (Rp.tup qa pa ra)⟩⟩
  · cases h
/-! divmod -/
def rDivmod : List V → Hp → VK → Prop := fun xs H Q => ∃ i j, xs = [.int i, .int j] ∧ divOk i j = true ∧ NewT [.int (i.fdiv j), .int (i.fmod j)] H Q
theorem call_divmodF : CallR X (.builtin "divmod") rDivmod := by
  intro pins s σ H xs us Q I r h
  obtain ⟨i, j, rfl, hc, q⟩ := h
  obtain ⟨u, w', rfl, ⟨t, rfl⟩, ⟨t', rfl⟩⟩ := vals2 r
  unfold divOk at hc
  rw [Bool.and_eq_true] at hc
  refine divmod_int (by simpa using hc.1) ?_ (.inl (PyProof.noPylong_of_log2 (of_decide_eq_true hc.2)))
  exact NewT.ep (us := [.int (i.fdiv j) s.toks, .int (i.fmod j) (s.toks + 1)]) q I (.cons ⟨_, rfl⟩ (.cons ⟨_, rfl⟩ .nil)) (by simp only [List.length_cons, List.length_nil]; rw [sizeLine_eq]; decide)
def hDivmod : List D → Option Rv
  | [.int i, .int j] => bif divOk i j then some (.val (.tuple [.int (i.fdiv j), .int (i.fmod j)])) else none
  | _ => none
theorem opn_divmod : OpN X rDivmod hDivmod := by
  intro J σ fs H S xs ds rv Q R r h p
  unfold hDivmod at h
  split at h
  · rename_i i j
    cases hc : divOk i j with
    | false => rw [hc] at h; cases h
    | true =>
      rw [hc] at h
      cases h
      obtain ⟨v, u, rfl, ry, rz⟩ := r.two
      exact ⟨i, j, by rw [ry.int, rz.int], hc, fun l o hl hd => p.newT R (.cons (.int _) (.cons (.int _) .nil)) hl hd⟩
  · cases h
/-! max of a list of ints; sorted; all, any -/
def asInts : List D → Option (List Int)
  | [] => some []
  | .int i :: r => (asInts r).map fun ns => i :: ns
  | _ :: _ => none
theorem asInts_eq : ∀ {ds : List D} {ns : List Int}, asInts ds = some ns → ds = ns.map PyData.int
  | [], _, h => by cases h; rfl
  | .int i :: r, ns, h => by
    obtain ⟨ms, h1, rfl⟩ := Option.map_eq_some_iff.mp (show (asInts r).map (fun ns => i :: ns) = some ns from h)
    rw [asInts_eq h1]; rfl
  | .none :: _, _, h => by cases h
  | .bool _ :: _, _, h => by cases h
  | .str _ :: _, _, h => by cases h
  | .list _ :: _, _, h => by cases h
  | .tuple _ :: _, _, h => by cases h
  | .dict _ :: _, _, h => by cases h
theorem asInts_map : ∀ ns : List Int, asInts (ns.map PyData.int) = some ns
  | [] => rfl
  | n :: ns => by show (asInts (ns.map PyData.int)).map _ = _; rw [asInts_map ns]; rfl
def asBools : List D → Option (List Bool)
  | [] => some []
  | .bool i :: r => (asBools r).map fun ns => i :: ns
  | _ :: _ => none
theorem asBools_eq : ∀ {ds : List D} {ns : List Bool}, asBools ds = some ns → ds = ns.map PyData.bool
  | [], _, h => by cases h; rfl
  | .bool i :: r, ns, h => by
    obtain ⟨ms, h1, rfl⟩ := Option.map_eq_some_iff.mp (show (asBools r).map (fun ns => i :: ns) = some ns from h)
    rw [asBools_eq h1]; rfl
  | .none :: _, _, h => by cases h
  | .int _ :: _, _, h => by cases h
  | .str _ :: _, _, h => by cases h
  | .list _ :: _, _, h => by cases h
  | .tuple _ :: _, _, h => by cases h
  | .dict _ :: _, _, h => by cases h
theorem asBools_map : ∀ ns : List Bool, asBools (ns.map PyData.bool) = some ns
  | [] => rfl
  | n :: ns => by show (asBools (ns.map PyData.bool)).map _ = _; rw [asBools_map ns]; rfl
theorem Rps.bls {K : PySem.W.Frag} {S : Hp} : ∀ {vs : List V} {ns : List Bool}, Rps K S vs (ns.map PyData.bool) → vs = ns.map V.bl
  | [], [], _ => rfl
  | [], _ :: _, h => by cases h
  | _ :: _, [], h => by cases h
  | v :: vs, n :: ns, h => by
    cases h with
    | cons r t =>
      cases r
      rw [List.map_cons, Rps.bls t]
/-- the greatest -/
def maxI : List Int → Int
  | [] => 0
  | n :: ns => ns.foldl max n
theorem foldl_max_ge : ∀ (ns : List Int) (a : Int), a ≤ ns.foldl max a ∧ ∀ y ∈ ns, y ≤ ns.foldl max a
  | [], a => ⟨Int.le_refl _, fun _ h => by cases h⟩
  | n :: ns, a => by
    obtain ⟨h1, h2⟩ := foldl_max_ge ns (max a n)
    refine ⟨Int.le_trans (Int.le_max_left a n) h1, fun y hy => ?_⟩
    rcases List.mem_cons.mp hy with rfl | hy
    · exact Int.le_trans (Int.le_max_right a _) h1
    · exact h2 y hy
theorem foldl_max_mem : ∀ (ns : List Int) (a : Int), ns.foldl max a = a ∨ ns.foldl max a ∈ ns
  | [], a => .inl rfl
  | n :: ns, a => by
    rcases foldl_max_mem ns (max a n) with h | h
    · rcases Int.le_total a n with q | q
      · right
        show ns.foldl max (max a n) ∈ n :: ns
        rw [h, Int.max_eq_right q]
        exact List.mem_cons_self
      · left
        show ns.foldl max (max a n) = a
        rw [h, Int.max_eq_left q]
    · exact .inr (List.mem_cons_of_mem _ h)
theorem maxI_mem {ns : List Int} (h : ns ≠ []) : maxI ns ∈ ns := by
  cases ns with
  | nil => exact absurd rfl h
  | cons n ns =>
    rcases foldl_max_mem ns n with q | q
    · show ns.foldl max n ∈ _
      rw [q]; exact List.mem_cons_self
    · exact List.mem_cons_of_mem _ q
theorem maxI_ge {ns : List Int} {y : Int} (h : y ∈ ns) : y ≤ maxI ns := by
  cases ns with
  | nil => cases h
  | cons n ns =>
    obtain ⟨h1, h2⟩ := foldl_max_ge ns n
    rcases List.mem_cons.mp h with rfl | h
    · exact h1
    · exact h2 y h
theorem max_unique {ns : List Int} {m : Int} (h1 : m ∈ ns) (h2 : ∀ y, y ∈ ns → y ≤ m) : m = maxI ns :=
  Int.le_antisymm (maxI_ge h1) (h2 _ (maxI_mem fun e => by rw [e] at h1; cases h1))
def hMax1 : List D → Option Rv
  | [.list ds] => match asInts ds with
    | some (n :: ns) => some (.val (.int (maxI (n :: ns))))
    | _ => none
  | [.tuple ds] => match asInts ds with
    | some (n :: ns) => some (.val (.int (maxI (n :: ns))))
    | _ => none
  | _ => none
/-- max of a tuple of ints -/
def rMaxT (K : PySem.W.Frag) : List V → Hp → VK → Prop := fun vs H Q => ∃ (a : Addr) (n : Int) (ns : List Int), vs = [V.ref a] ∧ SqT K H a ((n :: ns).map V.int) ∧ Q (.int (maxI (n :: ns))) H
theorem reads_ints {h : Heap} : ∀ {us : List Value} {ns : List Int}, Vals (ns.map V.int) us → ∃ as, ReadsAll h us (ns.map PyData.int) as
  | _, [], r => by cases r; exact ⟨_, ReadsAll.nil⟩
  | _, n :: ns, r => by
    cases r with
    | cons r1 r2 =>
      obtain ⟨t, e⟩ := r1
      subst e
      obtain ⟨as, q⟩ := reads_ints (h := h) r2
      exact ⟨_, ReadsAll.cons (Reads.int n t) q⟩
end
end Fx

namespace Fx
open PySem PySem.Spec PyProof.Rows L2
/-! ### max, sorted of a tuple of ints -/
section
variable {X : Cx}
theorem alike_ints (ns : List Int) : PySem.W.AlikeAll (ns.map PyData.int) := by
  refine ⟨fun x hx y hy => ?_, fun x hx => ?_⟩
  · obtain ⟨i, _, rfl⟩ := List.mem_map.mp hx
    obtain ⟨j, _, rfl⟩ := List.mem_map.mp hy
    rfl
  · obtain ⟨i, _, rfl⟩ := List.mem_map.mp hx
    exact fun h => nomatch h
theorem call_maxT (hc : X.calm = true) (hu : X.A.units + 65 < cLine) : CallR X (.builtin "max") (rMaxT X.K) := by
  intro pins s σ H vs us Q I r h
  obtain ⟨a, n, ns, rfl, hs, q⟩ := h
  obtain ⟨its, rv, hl, _⟩ := I.tuple hs
  rw [Vals.ref1 r]
  obtain ⟨as, hr⟩ := reads_ints (h := s.heap) rv
  refine PySem.W.max_tuple_data (as := as) (x := .int n) (xs := ns.map PyData.int) (I.ok.hd hc) hl (by simpa using hr) (alike_ints (n :: ns)) (by
    have : PyData.depthAll ((n :: ns).map PyData.int) = 0 := PyProof.Rows.depthAll_ints _
    show X.A.units + 1 + PyData.depthAll ((n :: ns).map PyData.int) < cLine
    rw [this]; omega) fun i v h' tk bs hv hv2 hk => ?_
  rw [PySem.W.maxD_ints] at hv2
  cases hv2 with
  | int i t => exact ⟨.int _, H, I.kept hk, ⟨t, rfl⟩, q⟩
theorem opn_max1 : OpN X (fun xs H Q => rMax X.K xs H Q ∨ rMaxT X.K xs H Q) hMax1 := by
  intro J σ fs H S xs ds rv Q R r h p
  unfold hMax1 at h
  split at h
  · split at h
    · rename_i n ns e
      cases h
      have e' := asInts_eq e
      subst e'
      obtain ⟨v, rfl, ry⟩ := r.one
      obtain ⟨a, xs, rfl, qa, ra⟩ := ry.lst
      have := ra.ints
      subst this
      exact .inl ⟨a, n :: ns, rfl, SqL.of qa, Nat.succ_pos _, fun m h1 h2 => by rw [max_unique h1 h2]; exact p.here R (Rp.int _)⟩
    · cases h
  · split at h
    · rename_i n ns e
      cases h
      have e' := asInts_eq e
      subst e'
      obtain ⟨v, rfl, ry⟩ := r.one
      obtain ⟨a, xs, rfl, qa, _, ra⟩ := ry.tup
      have := ra.ints
      subst this
      exact .inr ⟨a, n, ns, rfl, Same.seqT R.sub qa, p.here R (Rp.int _)⟩
    · cases h
  · cases h
/-- the items of a tuple -/
theorem collect_tup {prog : Program} {w : World} {A : Around} {E : Value → Shared → Prop} {s : Shared} {l : Addr} {vs : List Value} {Q : List Value → Shared → Prop} (hl : s.heap.IsTuple l vs.toArray)
    (h : Q vs { s with heap := (s.heap.push (seqObj "list" #[] 0)).update s.heap.objs.size (Obj.mapSeq (· ++ vs.toArray)) }) (hsz : vs.length ≤ sizeLine) :
    wpAny (model prog w) A (collect (.ref l)) Q E s := by
  obtain ⟨o, ho, hc, n, hd⟩ := id hl
  unfold collect
  refine wpAny_bind (wpAny_runValue (codeAny_builtin entry_proto_collect' ?_))
  show wpAny _ _ (do again (.builtin "list.__iadd__" ⟨[← newList [], .ref l], []⟩)) _ _ s
  refine wpAny_bind (wpAny_newList (wpAny_pure ⟨Code.quiet_builtin _ (by decide +kernel), codeAny_builtin entry_list_iadd' ?_⟩))
  show wpAny _ _ (Builtin.List.listExtendWith (.ref s.heap.objs.size) (.ref l) (.ref s.heap.objs.size)) _ _ { s with heap := s.heap.push (seqObj "list" #[] 0) }
  unfold Builtin.List.listExtendWith
  have ho' : (s.heap.push (seqObj "list" #[] 0)).get? l = some o := Heap.get?_push_of_some _ ho
  refine wpAny_bind (wpAny_typeOf (T := "tuple") ⟨o, ho', hc⟩ ?_)
  have ht : (Value.type "tuple" == Value.type "tuple") = true := by rfl
  rw [if_pos (by rw [ht]; simp)]
  refine wpAny_bind (listItems_at ho' hd ?_)
  refine wpAny_bind (listItems_at (xs := #[]) (n := 0) (Heap.get?_push_size _ rfl) rfl ?_)
  rw [if_neg (by simp)]
  refine wpAny_bind (listUpdate_at (xs := #[]) (n := 0) (Heap.get?_push_size _ rfl) rfl ?_ (Nat.zero_le _) (by show (#[] ++ vs.toArray).size ≤ sizeLine + 1; simp only [Array.size_append, List.size_toArray, List.length_nil]; omega))
  refine wpAny_pure ?_
  show wpAny (model prog w) A (do
      let o ← load s.heap.objs.size
      match o.data with
      | .seq xs _ => pure xs.toList
      | _ => unsupported "internal:collect") Q E { s with heap := (s.heap.push (seqObj "list" #[] 0)).update s.heap.objs.size (Obj.mapSeq (· ++ vs.toArray)) }
  refine wpAny_bind (wpAny_load (get?_update_seq (Heap.get?_push_size _ rfl) _) ?_)
  show wpAny _ _ (pure ((#[] : Array Value) ++ vs.toArray).toList) Q E _
  rw [show ((#[] : Array Value) ++ vs.toArray).toList = vs by simp]
  exact wpAny_pure h
theorem sorted_ordT {prog : Program} {w : World} {A : Around} {E : Value → Shared → Prop} {s : Shared} {l : Addr} {vs : List Value} {ltv : Value → Value → Bool} {Q : Value → Shared → Prop} (O : SrtO.Swo ltv) (hl : s.heap.IsTuple l vs.toArray) (hz : vs.length ≤ sizeLine)
    (hS : 2 ≤ vs.length → ∀ (h₁ : Heap) (a : Addr), h₁.get? a = some (seqObj "list" vs.toArray 0) → (∀ b o, s.heap.get? b = some o → b ≠ a ∧ h₁.get? b = some o) → SrtO.SortableO prog w A.in1.in1 { s with heap := h₁ } a vs ltv)
    (h : ∀ out : List Value, SrtO.Srtd ltv out → SrtO.Stb ltv out vs → Q (.ref (s.heap.objs.size + 1)) { s with heap := sortedAll s.heap vs out.toArray }) :
    wpAny (model prog w) A (call (.builtin "sorted") [.ref l]) Q E s := by
  refine Calls.call_function_entry kind_sorted plain_sorted entry_sorted (args_sorted1 _) ?_
  unfold Builtin.«sorted»
  refine wpAny_bind (m := checkCount "sorted" 1 1 _) (wpAny_pure ?_)
  refine wpAny_bind (collect_tup hl ?_ hz)
  refine wpAny_bind (wpAny_newList ?_ hz)
  have hsz : ((s.heap.push (seqObj "list" #[] 0)).update s.heap.objs.size (Obj.mapSeq (· ++ vs.toArray))).objs.size = s.heap.objs.size + 1 := by
    rw [Heap.size_update, size_push']
  have hoL : (((s.heap.push (seqObj "list" #[] 0)).update s.heap.objs.size (Obj.mapSeq (· ++ vs.toArray))).push (seqObj "list" vs.toArray 0)).get? (s.heap.objs.size + 1) = some (seqObj "list" vs.toArray 0) := by
    rw [← hsz]; exact Heap.get?_push_size _ rfl
  have keep : ∀ b o, s.heap.get? b = some o → b ≠ s.heap.objs.size + 1 ∧ (((s.heap.push (seqObj "list" #[] 0)).update s.heap.objs.size (Obj.mapSeq (· ++ vs.toArray))).push (seqObj "list" vs.toArray 0)).get? b = some o := fun b o q => by
    have hlt : b < s.heap.objs.size := Heap.lt_size q
    refine ⟨Nat.ne_of_lt (Nat.lt_succ_of_lt hlt), Heap.get?_push_of_some _ ?_⟩
    rw [Heap.get?_update_ne _ _ _ _ (Nat.ne_of_lt hlt)]
    exact Heap.get?_push_of_some _ q
  show wpAny _ _ _ _ _ { s with heap := ((s.heap.push (seqObj "list" #[] 0)).update s.heap.objs.size (Obj.mapSeq (· ++ vs.toArray))).push (seqObj "list" vs.toArray 0) }
  rw [hsz]
  refine wpAny_bind (wpAny_holding (wpAny_call_entry slot_list_sort ⟨_, hoL, rfl⟩ entry_list_sort (SrtO.list_sort_ord O hoL hz (fun h2 => hS h2 _ _ hoL keep) fun out hs hb => ⟨_, rfl, ?_⟩) (args_list_sort _)))
  exact wpAny_pure ⟨_, rfl, h out hs hb⟩
def rSortedT' (K : PySem.W.Frag) : List V → Hp → VK → Prop := fun vs H Q => ∃ (a : Addr) (ns : List Int), vs = [V.ref a] ∧ SqT K H a (ns.map V.int) ∧
  ∀ (ns' : List Int) (p : Addr), ns'.Perm ns → ns'.Pairwise (· ≤ ·) → H p = none → Q (.ref p) (upd H p (.lst (ns'.map V.int)))
theorem cr_sortedIT : CallR X (.builtin "sorted") (rSortedT' X.K) := by
  intro pins s σ H vs us Q I r h
  obtain ⟨a, ns, rfl, hs, q⟩ := h
  obtain ⟨its, rv, hl, hz⟩ := I.tuple hs
  rw [Vals.ref1 r]
  have hi := rv.ints
  refine sorted_ordT SrtO.swo_int hl (by rw [← rv.length]; exact hz) (fun h2 h₁ a' _ _ => SrtO.ints_sortable hi h2) fun out h1 h2 => ?_
  obtain ⟨k1, k2, k3⟩ := SrtO.ints_out hi h1 h2
  obtain ⟨ep, he'⟩ := PyProof.Rows.sortedAll_at s.heap its out.toArray
  have hlen : ((out.map SrtO.iv).map V.int).length ≤ sizeLine := by
    rw [List.length_map, k2.length_eq]
    rw [List.length_map] at hz
    exact hz
  exact ⟨.ref _, upd H (s.heap.objs.size + 1) (.lst ((out.map SrtO.iv).map V.int)), I.laid (t' := s.toks) (fun _ _ => PyProof.Rows.sortedAll_old) (Nat.le_succ _) ⟨hlen, out, ep, vals_of_ints k1, he'⟩, rfl, q _ _ k2 k3 (I.hok.fresh (Nat.le_succ _))⟩
/-- rising -/
def srtI (ns : List Int) : List Int := ns.mergeSort (fun a b => decide (a ≤ b))
theorem srtI_perm (ns : List Int) : (srtI ns).Perm ns := List.mergeSort_perm _ _
theorem srtI_rising (ns : List Int) : (srtI ns).Pairwise (· ≤ ·) := by
  have h := List.pairwise_mergeSort (le := fun a b : Int => decide (a ≤ b)) (by simp; omega) (by simp; omega) ns
  exact h.imp (by simp)
theorem srtI_of {ns ms : List Int} (h1 : ms.Perm ns) (h2 : ms.Pairwise (· ≤ ·)) : ms = srtI ns := PySem.W.ksm_same (h1.trans (srtI_perm ns).symm) h2 (srtI_rising ns)
def hSorted : List D → Option Rv
  | [.list ds] => match asInts ds with
    | some ns => some (.fresh (.list ((srtI ns).map PyData.int)))
    | none => none
  | [.tuple ds] => match asInts ds with
    | some ns => some (.fresh (.list ((srtI ns).map PyData.int)))
    | none => none
  | _ => none
theorem opn_sorted : OpN X (fun xs H Q => rSortedI X.K xs H Q ∨ rSortedT' X.K xs H Q) hSorted := by
  intro J σ fs H S xs ds rv Q R r h p
  unfold hSorted at h
  split at h
  · split at h
    · rename_i ns e
      cases h
      have e' := asInts_eq e
      subst e'
      obtain ⟨v, rfl, ry⟩ := r.one
      obtain ⟨a, xs, rfl, qa, ra⟩ := ry.lst
      have := ra.ints
      subst this
      exact .inl ⟨a, ns, rfl, SqL.of qa, fun m l h1 h2 hl => by rw [srtI_of h1 h2]; exact p.newL R (Rps.of_ints _) hl⟩
    · cases h
  · split at h
    · rename_i ns e
      cases h
      have e' := asInts_eq e
      subst e'
      obtain ⟨v, rfl, ry⟩ := r.one
      obtain ⟨a, xs, rfl, qa, _, ra⟩ := ry.tup
      have := ra.ints
      subst this
      exact .inr ⟨a, ns, rfl, Same.seqT R.sub qa, fun m l h1 h2 hl => by rw [srtI_of h1 h2]; exact p.newL R (Rps.of_ints _) hl⟩
    · cases h
  · cases h
/-! all, any, sum -/
def hAll : List D → Option Rv
  | [.list ds] => match asBools ds with
    | some ns => some (.val (.bool (ns.all id)))
    | none => none
  | _ => none
theorem opn_all : OpN X (rAll X.K) hAll := by
  intro J σ fs H S xs ds rv Q R r h p
  unfold hAll at h
  split at h
  · split at h
    · rename_i ns e
      cases h
      have e' := asBools_eq e
      subst e'
      obtain ⟨v, rfl, ry⟩ := r.one
      obtain ⟨a, xs, rfl, qa, ra⟩ := ry.lst
      have := ra.bls
      subst this
      exact ⟨a, ns, rfl, SqL.of qa, p.here R (Rp.bl _)⟩
    · cases h
  · cases h
def hAny : List D → Option Rv
  | [.list ds] => match asBools ds with
    | some ns => some (.val (.bool (ns.any id)))
    | none => none
  | _ => none
theorem opn_any : OpN X (rAny X.K) hAny := by
  intro J σ fs H S xs ds rv Q R r h p
  unfold hAny at h
  split at h
  · split at h
    · rename_i ns e
      cases h
      have e' := asBools_eq e
      subst e'
      obtain ⟨v, rfl, ry⟩ := r.one
      obtain ⟨a, xs, rfl, qa, ra⟩ := ry.lst
      have := ra.bls
      subst this
      exact ⟨a, ns, rfl, SqL.of qa, p.here R (Rp.bl _)⟩
    · cases h
  · cases h
def hSum : List D → Option Rv
  | [.list ds] => match asInts ds with
    | some ns => some (.val (.int ns.sum))
    | none => none
  | _ => none
theorem opn_sum : OpN X (rSum X.K) hSum := by
  intro J σ fs H S xs ds rv Q R r h p
  unfold hSum at h
  split at h
  · split at h
    · rename_i ns e
      cases h
      have e' := asInts_eq e
      subst e'
      obtain ⟨v, rfl, ry⟩ := r.one
      obtain ⟨a, xs, rfl, qa, ra⟩ := ry.lst
      have := ra.ints
      subst this
      exact ⟨a, ns, rfl, SqL.of qa, p.here R (Rp.int _)⟩
    · cases h
  · cases h
/-! isinstance(x, T) -/
def tyN : D → String
  | .none => "NoneType"
  | .bool _ => "bool"
  | .int _ => "int"
  | .str _ => "str"
  | .list _ => "list"
  | .tuple _ => "tuple"
  | .dict _ => "dict"
def notScr : D → Bool
  | .dict (_ :: _) => false
  | _ => true
theorem RpB.ty {K : PySem.W.Frag} {S H : Hp} (sub : Same S H) {v : V} {d : D} (h : RpB K S H v d) (hd : notScr d = true) : TyX K H v (.type (tyN d)) := by
  cases d with
  | none => cases h.non; exact .base .non
  | bool b => cases h.bl; exact .base (.bl b)
  | int i => cases h.int; exact .base (.int i)
  | str x => cases h.str; exact .base (.str x)
  | list ds =>
    obtain ⟨a, xs, rfl, q, _⟩ := h.lst
    exact .base (.lst q)
  | tuple ds =>
    obtain ⟨a, xs, rfl, q, _, _⟩ := h.tup
    rcases Same.seqT sub q with (q | ⟨o, q⟩) | ⟨o, its, n, q, c, _⟩
    · exact .base (.tup q)
    · exact .fTuple q
    · exact .kTuple q c
  | dict ds =>
    cases ds with
    | nil =>
      rcases h with ⟨a, kvs, rfl, q, _⟩ | ⟨a, xs, es, rfl, e1, _⟩
      · exact .base (.dK q)
      · cases e1
    | cons p ds => cases hd
def hIsi (T : String) (d : D) : Option Rv := bif notScr d then (kitB (tyN d) T).map fun b => .val (.bool b) else none
theorem sim_isi {J : Inf} {W : WX} {t : TE} {f : M Rv} {T : String} (s : Sim X.K J X.mg W t (rV X.K) f) : Sim X.K J X.mg W (tCB (rIsi X.K) (fun σ H Q => t σ H fun v H1 => tC (.ty T) σ H1 fun u H2 => Q [v, u] H2)) (rV X.K) (fUn (hIsi T) f) := by
  intro σ H S fs Q res fs' R e p
  refine s.bind R e p fun rx fs1 x H1 S1 R1 r1 e1 p1 st1 sh1 => ?_
  unfold rd1 at e1
  split at e1
  · rename_i d q1
    split at e1
    · rename_i rv q3
      cases e1
      unfold hIsi at q3
      cases hs : notScr d with
      | false => rw [hs] at q3; cases q3
      | true =>
        rw [hs] at q3
        obtain ⟨b, hb, rfl⟩ := Option.map_eq_some_iff.mp (show (kitB (tyN d) T).map _ = some rv from q3)
        exact ⟨x, .ty T, _, _, b, rfl, .ty T, RpB.ty R1.sub (r1.rd R1 q1) hs, kit_ty hb, p1.here R1 (Rp.bl b)⟩
    · cases e1
  · cases e1
theorem fe_isi {J : Inf} {W : WX} {e : Expr} {f : M Rv} {x : Str} {T : String} {p p2 pos : Pos} (hg : Gl X "isinstance") (hm : X.mg "isinstance" = none) (hgx : Gl X x) (hmx : X.mg x = none) (hv : bootBuiltins x = some (.type T)) (he : FE X J W e f)
    (hn : x ≠ "__name__" := by decide) (hdb : (x == ("__debug__" : Str)) = false := by decide)
    (hs : starEach [e, .Name x p2] X.env = (false, eval e X.env) :: starEach [.Name x p2] X.env := by rfl) (hs2 : starEach [.Name x p2] X.env = (false, eval (.Name x p2) X.env) :: starEach [] X.env := by rfl) (hpl : (backTo pos (starEach [.Name x p2] X.env)).any (·.1) = false := by rfl) :
    FE X J W (.Call (.Name "isinstance" p) [e, .Name x p2] [] pos) (fUn (hIsi T) f) := by
  obtain ⟨t, pe, s⟩ := he
  have pT : PE X (.Name x p2) (tC (.ty T)) := pe_bltn hgx hmx hv rfl hn hdb
  exact ⟨_, pe_callB call_isi hg hm boot_isinstance (pa_cons pe (pa_cons pT pa_nil hs2) hs) (by decide) (by decide) hs hpl, sim_isi s⟩
/-! list(range(..)) -/
def rgL (a b : Int) : List D := (List.range (b - a).toNat).map fun i => PyData.int (a + (i : Nat))
theorem rps_rgV {K : PySem.W.Frag} {S : Hp} (a b : Int) : Rps K S (rgV a b) (rgL a b) := by
  unfold rgV rgL
  have : ∀ l : List Nat, Rps K S (l.map fun i => V.int (a + (i : Nat))) (l.map fun i => PyData.int (a + (i : Nat))) := fun l => by
    induction l with
    | nil => exact .nil
    | cons x l ih => exact .cons (.int _) ih
  exact this _
def rgOk (a b : Int) : Bool := smI a && smI b && decide ((b - a).toNat ≤ 16777216)
theorem rgOk_of {a b : Int} (h : rgOk a b = true) : RgOk a b := by
  unfold rgOk at h
  simp only [Bool.and_eq_true, decide_eq_true_eq] at h
  have h1 := smI_iff h.1.1
  have h2 := smI_iff h.1.2
  exact ⟨h1.1, h1.2, h2.1, h2.2, h.2⟩
def hLR1 : D → Option Rv
  | .int n => bif rgOk 0 n then some (.fresh (.list (rgL 0 n))) else none
  | _ => none
def hLR2 : D → D → Option Rv
  | .int m, .int n => bif rgOk m n then some (.fresh (.list (rgL m n))) else none
  | _, _ => none
variable {J : Inf} {W : WX} {e e2 : Expr} {f g : M Rv} {p p2 pos pos2 : Pos}
theorem fe_listR1 (hc : X.calm = true) (hg : Gl X "list") (hm : X.mg "list" = none) (hg2 : Gl X "range") (hm2 : X.mg "range" = none) (he : FE X J W e f) (na : starEach [e] X.env = (false, eval e X.env) :: starEach [] X.env := by rfl)
    (nb : starEach [.Call (.Name "range" p2) [e] [] pos2] X.env = (false, eval (.Call (.Name "range" p2) [e] [] pos2) X.env) :: starEach [] X.env := by rfl) : FE X J W (.Call (.Name "list" p) [.Call (.Name "range" p2) [e] [] pos2] [] pos) (fUn hLR1 f) := by
  obtain ⟨t, pe, s⟩ := he
  refine ⟨_, pe_listRg hc hg hm (prg_1 hg2 hm2 pe na) nb, fun σ H S fs Q res fs' R e p => ?_⟩
  refine s.bind R e p fun rx fs1 x H1 S1 R1 r1 e1 p1 st1 sh1 => ?_
  unfold rd1 at e1
  split at e1
  · rename_i d q1
    split at e1
    · rename_i rv q3
      cases e1
      unfold hLR1 at q3
      split at q3
      · rename_i n
        cases hr : rgOk 0 n with
        | false => rw [hr] at q3; cases q3
        | true =>
          rw [hr] at q3
          cases q3
          exact ⟨n, (r1.rd R1 q1).int, rgOk_of hr, fun l hl => p1.toV.newL R1 (rps_rgV 0 n) hl⟩
      · cases q3
    · cases e1
  · cases e1
theorem fe_listR2 (hc : X.calm = true) (hg : Gl X "list") (hm : X.mg "list" = none) (hg2 : Gl X "range") (hm2 : X.mg "range" = none) (he : FE X J W e f) (he2 : FE X J W e2 g) (na : starEach [e, e2] X.env = (false, eval e X.env) :: starEach [e2] X.env := by rfl) (na2 : starEach [e2] X.env = (false, eval e2 X.env) :: starEach [] X.env := by rfl)
    (hp : (backTo pos2 (starEach [e2] X.env)).any (·.1) = false := by rfl)
    (nb : starEach [.Call (.Name "range" p2) [e, e2] [] pos2] X.env = (false, eval (.Call (.Name "range" p2) [e, e2] [] pos2) X.env) :: starEach [] X.env := by rfl) : FE X J W (.Call (.Name "list" p) [.Call (.Name "range" p2) [e, e2] [] pos2] [] pos) (fBin hLR2 f g) := by
  obtain ⟨t, pe, s⟩ := he
  obtain ⟨t2, pe2, s2⟩ := he2
  refine ⟨_, pe_listRg hc hg hm (prg_2 hg2 hm2 pe pe2 na na2 hp) nb, fun σ H S fs Q res fs' R e p => ?_⟩
  refine s.bind R e p fun rx fs1 x H1 S1 R1 r1 e1 p1 st1 sh1 => ?_
  refine s2.bind R1 e1 p1 fun ry fs2 y H2 S2 R2 r2 e2 p2 st2 sh2 => ?_
  unfold rd2 at e2
  split at e2
  · rename_i d d' q1 q2
    split at e2
    · rename_i rv q3
      cases e2
      unfold hLR2 at q3
      split at q3
      · rename_i m n
        cases hr : rgOk m n with
        | false => rw [hr] at q3; cases q3
        | true =>
          rw [hr] at q3
          cases q3
          exact ⟨m, n, ((r1.later st2 sh2).rd R2 q1).int, (r2.rd R2 q2).int, rgOk_of hr, fun l hl => p2.toV.newL R2 (rps_rgV m n) hl⟩
      · cases q3
    · cases e2
  · cases e2
end
end Fx

namespace Fx
open PySem PySem.Spec PyProof.Rows L2
section
variable {K : PySem.W.Frag} {J : Inf} {σ : St} {H S : Hp} {fs : Fs}
/-- an own object is written -/
theorem Rel.upd {i n : Nat} {d d' : D} {p : Addr} {o : HO} (R : Rel K J σ H S fs) (h : fs[i]? = some (.own n d)) (hp : σ[i]? = some (some (.ref p))) (ho : OwnAt K S (upd H p o) p d') :
    Rel K J σ (L2.upd H p o) S (fs.set i (.own n d')) ∧ Stp (Wn σ fs) (Wz σ fs) H S (L2.upd H p o) S ∧ Shr fs (fs.set i (.own n d')) := by
  obtain ⟨p', q1, q2, q3, q4⟩ := R.own i n d h
  rw [hp] at q1
  cases q1
  obtain ⟨o0, e0⟩ := q2.live
  have hl : i < fs.length := (List.getElem?_eq_some_iff.mp h).1
  have st : Stp (Wn σ fs) (Wz σ fs) H S (L2.upd H p o) S := ⟨fun a u e nw => by
    by_cases ea : a = p
    · subst ea; exact absurd ⟨i, n, d, h, hp⟩ nw
    · rw [upd_ne ea]; exact e, Same.refl _, fun _ z => .inl z, fun a z => by
    by_cases ea : a = p
    · subst ea; rw [upd_same]; simp
    · rw [upd_ne ea]; exact z⟩
  have sh : Shr fs (fs.set i (.own n d')) := Shr.set fun m e z => by cases z; exact ⟨d, h⟩
  refine ⟨R.step st (fun a u e => ?_) (by rw [List.length_set]; exact R.len) (fun j e z => ?_) (fun j m e z => ?_) sh, st, sh⟩
  · rw [upd_ne (ne_of_none e q3)]; exact R.sub _ _ e
  · by_cases hj : i = j
    · subst hj
      rw [List.getElem?_set_self hl] at z
      cases z
    · rw [List.getElem?_set_ne hj] at z
      exact R.dat j e z
  · by_cases hj : i = j
    · subst hj
      rw [List.getElem?_set_self hl] at z
      cases z
      exact ⟨p, hp, ho, q3⟩
    · rw [List.getElem?_set_ne hj] at z
      obtain ⟨r, r1, r2, r3, _⟩ := R.own j m e z
      have ne : r ≠ p := fun w => hj (R.sep i j n m d e p h z hp (by rw [← w]; exact r1))
      exact ⟨r, r1, r2.mono (Same.refl _) fun u w => by rw [upd_ne ne]; exact w, r3⟩
end
section
variable {X : Cx} {J : Inf} {W : WX}
/-! ### methods of an own list -/
def OpM (X : Cx) (r : V → List V → Hp → VK → Prop) (hm : List D → List D → Option (D × List D)) : Prop :=
  ∀ (S H : Hp) (p : Addr) (xs : List V) (ds : List D) (vs : List V) (as : List D) (d : D) (ys : List D) (Q : VK), Same S H → H p = some (.lst xs) → Rps X.K S xs ds → Rps X.K S vs as → hm ds as = some (d, ys) →
    (∀ v us, Rp X.K S v d → Rps X.K S us ys → Q v (upd H p (.lst us))) → r (.ref p) vs H Q
def mtGo (i : Nat) (hm : List D → List D → Option (D × List D)) : List D → M Rv := fun as fs => match fs[i]? with
  | some (.own n (.list xs)) => match hm xs as with
    | some (d, ys) => some (.inr (.val d), fs.set i (.own n (.list ys)))
    | none => none
  | _ => none
/-- x.m(..), x an own list -/
def fMt (i : Nat) (hm : List D → List D → Option (D × List D)) (g : M (List D)) : M Rv := fun fs => match fs[i]? with
  | some (.own _ (.list _)) => bnd g (mtGo i hm) fs
  | _ => none
theorem mtGo_run {r : V → List V → Hp → VK → Prop} {hm : List D → List D → Option (D × List D)} (ho : OpM X r hm) {i : Nat} {σ : St} {fs fs' : Fs} {H S : Hp} {v : V} {vs : List V} {as : List D} {res : Cls ⊕ Rv} {Q : VK} (R : Rel X.K J σ H S fs) (hv : σ[i]? = some (some v)) (ra : Rps X.K S vs as)
    (e : mtGo i hm as fs = some (res, fs')) (p : PostE X.K J X.mg W (rV X.K) Q σ fs H S res fs') : tyV X.K "list" v H ∧ r v vs H Q := by
  unfold mtGo at e
  split at e
  · rename_i n xs q
    split at e
    · rename_i d ys q2
      cases e
      obtain ⟨a, h1, h2, h3, h4⟩ := R.own i n _ q
      rw [hv] at h1
      cases h1
      obtain ⟨us, e1, e2⟩ := h2
      refine ⟨.inl ⟨rfl, _, SqL.of e1⟩, ho S H a us xs vs as d ys Q R.sub e1 e2 ra q2 fun v us' rv ru => ?_⟩
      obtain ⟨R2, st2, sh2⟩ := R.upd (o := .lst us') (d' := .list ys) q hv ⟨us', upd_same, ru⟩
      exact p _ S R2 st2 sh2 v rv
    · cases e
  · cases e
theorem fe_mt {i : Nat} {x name : Str} {apos cpos pos : Pos} {e : Expr} {es : List Expr} {id : String} {r : V → List V → Hp → VK → Prop} {hm : List D → List D → Option (D × List D)} {g : M (List D)} (slot : Slot "list" name id) (hty : typeOf (.builtin id) = pure (.type "method_descriptor")) (hr : MtR X id r) (ho : OpM X r hm) (ha : FDs X J W (e :: es) g)
    (hN : X.N[i]? = some x := by rfl) (hv : Vis X.env.scope x := by first | exact Or.inl rfl | exact Or.inr (Or.inl rfl) | exact Or.inr (Or.inr rfl)) (hd : (x == ("__debug__" : Str)) = false := by decide) (hcd : (x == ("__classdict__" : Str)) = false := by decide)
    (hbase : attributeBase (.Name x pos) name X.env (eval (.Name x pos) X.env) = eval (.Name x pos) X.env := by rfl)
    (hfew : ((backTo cpos (starEach (e :: es) X.env)).all (fun x => !x.1) && (backToKw cpos (keywordEach [] X.env)).all (fun x => x.1.isSome)
      && decide ((e :: es).length + ([] : List Keyword).length + (if ([] : List Keyword).isEmpty then 0 else 1) < 30)) = true := by rfl)
    (hline : (apos.endLine == cpos.line) = true := by rfl) (hs : starEach (e :: es) X.env = (false, eval e X.env) :: starEach es X.env := by rfl) (hplain : (backTo cpos (starEach es X.env)).any (·.1) = false := by rfl) :
    FE X J W (.Call (.Attribute (.Name x pos) name apos) (e :: es) [] cpos) (fMt i hm g) := by
  obtain ⟨t, pa, s⟩ := ha
  refine ⟨_, pe_bm F.plainAttrs_list slot hty hr (pe_var hN hv hd hcd) pa hbase hfew hline hs hplain, fun σ H S fs Q res fs' R e p => ?_⟩
  unfold fMt at e
  split at e
  · rename_i n ds q
    obtain ⟨a, h1, h2, _⟩ := R.own i n _ q
    obtain ⟨xs, z, _⟩ := h2
    exact ⟨_, h1, .inl ⟨rfl, _, SqL.of z⟩, s.bind R e p fun as fs1 vs H1 S1 R1 r1 e1 p1 st1 sh1 => (mtGo_run ho R1 h1 r1 e1 p1).2⟩
  · cases e
theorem fe_mt0 {i : Nat} {x name : Str} {apos cpos pos : Pos} {id : String} {r : V → List V → Hp → VK → Prop} {hm : List D → List D → Option (D × List D)} (slot : Slot "list" name id) (hty : typeOf (.builtin id) = pure (.type "method_descriptor")) (hr : MtR X id r) (ho : OpM X r hm)
    (hN : X.N[i]? = some x := by rfl) (hv : Vis X.env.scope x := by first | exact Or.inl rfl | exact Or.inr (Or.inl rfl) | exact Or.inr (Or.inr rfl)) (hd : (x == ("__debug__" : Str)) = false := by decide) (hcd : (x == ("__classdict__" : Str)) = false := by decide)
    (hbase : attributeBase (.Name x pos) name X.env (eval (.Name x pos) X.env) = eval (.Name x pos) X.env := by rfl) (hline : (apos.endLine == cpos.line) = true := by rfl) :
    FE X J W (.Call (.Attribute (.Name x pos) name apos) [] [] cpos) (fMt i hm dNil) := by
  refine ⟨_, pe_bm0 F.plainAttrs_list slot hty hr (pe_var hN hv hd hcd) hbase hline, fun σ H S fs Q res fs' R e p => ?_⟩
  unfold fMt at e
  split at e
  · rename_i n ds q
    obtain ⟨a, h1, h2, _⟩ := R.own i n _ q
    exact ⟨_, h1, mtGo_run ho R h1 .nil e p⟩
  · cases e
def hApp : List D → List D → Option (D × List D) := fun xs as => match as with
  | [d] => if xs.length < sizeLine then some (.none, xs ++ [d]) else none
  | _ => none
theorem opm_append : OpM X rAppend hApp := by
  intro S H p xs ds vs as d ys Q sub hp rx rv h q
  unfold hApp at h
  split at h
  · split at h
    · rename_i hz
      cases h
      cases rv with
      | cons r1 r2 =>
        cases r2
        exact ⟨p, xs, _, rfl, rfl, hp, by rw [rx.length]; exact hz, q _ _ .non (rx.append (.cons r1 .nil))⟩
    · cases h
  · cases h
def hExt : List D → List D → Option (D × List D) := fun xs as => match as with
  | [.list ys] => if xs.length + ys.length ≤ sizeLine then some (.none, xs ++ ys) else none
  | _ => none
theorem opm_extend : OpM X rExtend hExt := by
  intro S H p xs ds vs as d ys Q sub hp rx rv h q
  unfold hExt at h
  split at h
  · split at h
    · rename_i hz
      cases h
      cases rv with
      | cons r1 r2 =>
        cases r2
        cases r1 with
        | lst e2 r2 => exact ⟨p, _, xs, _, rfl, rfl, hp, sub _ _ e2, by rw [rx.length, r2.length]; exact hz, q _ _ .non (rx.append r2)⟩
    · cases h
  · cases h
def hPop : List D → List D → Option (D × List D) := fun xs as => match as with
  | [] => match xs[xs.length - 1]? with
    | some d => some (d, xs.dropLast)
    | none => none
  | _ => none
theorem opm_pop : OpM X rPop hPop := by
  intro S H p xs ds vs as d ys Q sub hp rx rv h q
  unfold hPop at h
  split at h
  · split at h
    · rename_i e
      cases h
      cases rv
      obtain ⟨v, h1, h2⟩ := rx.get e
      rw [← rx.length] at h1
      exact ⟨p, xs, v, rfl, rfl, hp, h1, q _ _ h2 rx.dropLast⟩
    · cases h
  · cases h
def hPopAt : List D → List D → Option (D × List D) := fun xs as => match as with
  | [.int i] => bif smI i then match ixN xs.length i with
      | some k => match xs[k]? with
        | some d => some (d, xs.eraseIdx k)
        | none => none
      | none => none
    else none
  | _ => none
theorem opm_popAt : OpM X rPopAt hPopAt := by
  intro S H p xs ds vs as d ys Q sub hp rx rv h q
  unfold hPopAt at h
  split at h
  · rename_i i
    cases hz' : smI i with
    | true =>
      have hz := smI_iff hz'
      rw [hz', cond_true] at h
      split at h
      · rename_i k hk
        split at h
        · rename_i d e
          cases h
          cases rv with
          | cons r1 r2 =>
            cases r2
            cases r1
            obtain ⟨v, h1, h2⟩ := rx.get e
            exact ⟨p, xs, _, k, v, rfl, rfl, hp, by omega, by omega, by rw [rx.length]; exact (ixN_seq hk).1, h1, q _ _ h2 (rx.eraseIdx k)⟩
        · cases h
      · cases h
    | false => rw [hz'] at h; cases h
  · cases h
def hIns : List D → List D → Option (D × List D) := fun xs as => match as with
  | [.int i, d] => bif decide (xs.length < sizeLine) && decide (0 ≤ i) && smI i then some (.none, xs.take i.toNat ++ [d] ++ xs.drop i.toNat) else none
  | _ => none
theorem opm_insert : OpM X (fun x vs H Q => ∃ (l : Addr) (xs : List V) (i : Int) (y : V), x = .ref l ∧ vs = [.int i, y] ∧ H l = some (.lst xs) ∧ xs.length < sizeLine ∧ 0 ≤ i ∧ i < 2 ^ 63 ∧ Q .non (upd H l (.lst (xs.take i.toNat ++ [y] ++ xs.drop i.toNat)))) hIns := by
  intro S H p xs ds vs as d ys Q sub hp rx rv h q
  unfold hIns at h
  split at h
  · rename_i i d
    cases hz' : decide (ds.length < sizeLine) && decide (0 ≤ i) && smI i with
    | true =>
      rw [hz', cond_true] at h
      rw [Bool.and_eq_true, Bool.and_eq_true] at hz'
      have h2 := smI_iff hz'.2
      cases h
      cases rv with
      | cons r1 r2 =>
        cases r2 with
        | cons r2 r3 =>
          cases r3
          cases r1
          exact ⟨p, xs, _, _, rfl, rfl, hp, by rw [rx.length]; exact of_decide_eq_true hz'.1.1, of_decide_eq_true hz'.1.2, by omega, q _ _ .non (((rx.take _).append (.cons r2 .nil)).append (rx.drop _))⟩
    | false => rw [hz'] at h; cases h
  · cases h
/-! x[i] = v, x an own list -/
def sStore (i : Nat) (fv fi : M Rv) : SM := bndS (fD fv) fun d => bndS fi fun ix => fun fs => match ix.rd fs with
  | some (.int k) => match fs[i]? with
    | some (.own n (.list xs)) => match ixN xs.length k with
      | some j => some (.nx, fs.set i (.own n (.list (xs.set j d))))
      | none => none
    | _ => none
  | _ => none
def slOk (i : Nat) (g : SM) : SM := fun fs => match fs[i]? with
  | some (.own _ (.list _)) => g fs
  | _ => none
theorem fs_store {i : Nat} {x : Str} {e ei : Expr} {fv fi : M Rv} {pos p1 p2 : Pos} (he : FE X J W e fv) (hi : FE X J W ei fi)
    (hN : X.N[i]? = some x := by rfl) (hv : Vis X.env.scope x := by first | exact Or.inl rfl | exact Or.inr (Or.inl rfl) | exact Or.inr (Or.inr rfl)) (hd : (x == ("__debug__" : Str)) = false := by decide) (hcd : (x == ("__classdict__" : Str)) = false := by decide)
    (ha : ∀ v, assign (.Subscript (.Name x p1) ei p2) X.env v = (do
      let ov ← holding [v] (eval (.Name x p1) X.env)
      let iv ← holding [v, ov] (eval ei X.env)
      standAt p2
      holding [v, ov, iv] (setItem ov iv v)
      release [v, ov, iv] []) := by intro _; rfl)
    (hs : swapsWithSole [.Subscript (.Name x p1) ei p2] e pos.line X.env = pure false := by rfl) (hw : swappedStores [.Subscript (.Name x p1) ei p2] e X.env = pure none := by rfl)
    (h1 : (assignEach [.Subscript (.Name x p1) ei p2] X.env).map (·.2) = [assign (.Subscript (.Name x p1) ei p2) X.env] := by rfl) :
    FS X J W (.Assign [.Subscript (.Name x p1) ei p2] e pos) (slOk i (sStore i fv fi)) := by
  obtain ⟨t, pe, s⟩ := he
  obtain ⟨u, pi, s'⟩ := hi
  refine ⟨_, ps_asg pe (pg_sub (pe_var hN hv hd hcd) pi set_list ha) hs hw h1, fun σ H S fs D r fs' R e p => ?_⟩
  unfold slOk at e
  split at e
  · rename_i n0 ds0 q0
    obtain ⟨a, w1, w2, w3, _⟩ := R.own i n0 _ q0
    refine (s.fz).bindS R e p fun d fs1 v H1 S1 R1 r1 e1 p1 st1 sh1 => ?_
    refine ⟨_, w1, ?_⟩
    refine s'.bindS R1 e1 p1 fun ix fs2 y H2 S2 R2 r2 e2 p2 st2 sh2 => ?_
    try dsimp only at e2
    split at e2
    · rename_i k qk
      split at e2
      · rename_i n xs q
        split at e2
        · rename_i j hj
          cases e2
          obtain ⟨a', y1, y2, y3, _⟩ := R2.own i n _ q
          rw [w1] at y1
          cases y1
          obtain ⟨us, z1, z2⟩ := y2
          obtain ⟨R3, st3, sh3⟩ := R2.upd (o := .lst (us.set j v)) (d' := .list (xs.set j d)) q w1 ⟨us.set j v, upd_same, z2.set (r1.mono st2.grow) j⟩
          exact ⟨a, us, k, j, rfl, (r2.rd R2 qk).int, z1, by rw [z2.length]; exact hj, p2 _ _ S2 R3 (Same.refl _)⟩
        · cases e2
      · cases e2
    · cases e2
  · cases e
/-! xs.index(x) of a list or a plain tuple -/
def tyP (K : PySem.W.Frag) (x : V) (H : Hp) : Prop := ∃ p xs, x = .ref p ∧ SqT K H p xs ∧ Plain K H p
theorem tyP_is {pins : List (Addr × Obj)} {σ : St} {H : Hp} {s : Shared} {x : V} {v : Value} (I : Inv X pins σ H s) (r : RelV x v) (ty : tyP X.K x H) :
    s.TypeIs v "tuple" ∧ ∀ a, v = .ref a → ∃ ob, s.heap.get? a = some ob ∧ ob.dict = none := by
  obtain ⟨p, xs, rfl, hq, hp⟩ := ty
  cases r
  obtain ⟨its, _, ⟨o, h1, h2, _⟩, _⟩ := I.tuple hq
  refine ⟨⟨o, h1, h2⟩, fun a e => ?_⟩
  cases e
  rcases hp with ⟨o', u, e', hd⟩ | ⟨o', e', hd⟩
  · obtain ⟨h3, _⟩ := (show ObjOk X.prog X.w H s.heap p (.frz o' u) from I.hok p _ e')
    exact ⟨o', h3, hd⟩
  · exact ⟨o', I.kIn p o' e', hd⟩
def tBMT (K : PySem.W.Frag) (r : V → List V → Hp → VK → Prop) (to : TE) (t : TA) : TE := fun σ H Q => to σ H fun x H1 => tyP K x H1 ∧ t σ H1 fun xs H2 => r x xs H2 Q
theorem pe_bmT {o e : Expr} {es : List Expr} {to : TE} {t : TA} {name : Str} {apos cpos : Pos} {id : String} {r : V → List V → Hp → VK → Prop} (slot : Slot "tuple" name id) (hty : typeOf (.builtin id) = pure (.type "method_descriptor")) (hm : MtR X id r) (ho : PE X o to) (ha : PA X (e :: es) t)
    (hbase : attributeBase o name X.env (eval o X.env) = eval o X.env := by rfl)
    (hfew : ((backTo cpos (starEach (e :: es) X.env)).all (fun x => !x.1) && (backToKw cpos (keywordEach [] X.env)).all (fun x => x.1.isSome)
      && decide ((e :: es).length + ([] : List Keyword).length + (if ([] : List Keyword).isEmpty then 0 else 1) < 30)) = true := by rfl)
    (hline : (apos.endLine == cpos.line) = true := by rfl) (hs : starEach (e :: es) X.env = (false, eval e X.env) :: starEach es X.env := by rfl) (hplain : (backTo cpos (starEach es X.env)).any (·.1) = false := by rfl) :
    PE X (.Call (.Attribute o name apos) (e :: es) [] cpos) (tBMT X.K r to t) := by
  refine ⟨fun pins s σ H Q I h => ?_⟩
  refine wpAny_Call_method_late hbase hfew hline rfl (thn (ho.run pins s σ H _ I h) fun v s1 ⟨x, H1, I1, r1, ty, q1⟩ => ?_)
  obtain ⟨h1, h2⟩ := tyP_is I1 r1 ty
  refine ⟨"tuple", id, F.plainAttrs_tuple, slot, hty, h1, h2, ?_⟩
  have hA := ha.run cpos pins s1 σ H1 _ I1 q1
  rw [hs] at hA ⊢
  refine Calls.callWith_builtin (by show (false || (backTo cpos (starEach es X.env)).any (·.1)) = false; rw [hplain] <;> rfl) (Calls.evalArgs_plain ?_)
  exact thn hA fun us s2 ⟨vs, H2, I2, r2, q2⟩ => hm pins s2 σ H2 x vs v us Q I2 r1 r2 q2
def rIndexTD (K : PySem.W.Frag) : V → List V → Hp → VK → Prop := fun x xs H Q => ∃ (a : Addr) (y : V) (d : PyData) (ds : List PyData) (j : Nat) (z : PyData), x = V.ref a ∧ xs = [y] ∧ Dp K H (V.ref a) (.tuple ds) ∧ Dp K H y d ∧
  SeqAt.shaped (.tuple ds) = true ∧ SeqAt.shaped d = true ∧ ds[j]? = some z ∧ PyData.eqv z d = true ∧ (∀ (m : Nat) (z' : PyData), m < j → ds[m]? = some z' → PyData.eqv z' d = false) ∧ Q (.int (j : Nat)) H
theorem mt_indexTD (hu : X.A.units + 65 < cLine) : MtR X "tuple.index" (rIndexTD X.K) := by
  intro pins s σ H x xs v us Q I rx rxs h
  obtain ⟨a, y, d, ds, j, z, rfl, rfl, hl, hy, sl, sd, hz, hzj, hno, q⟩ := h
  cases rx
  cases rxs with
  | cons ry rt =>
    rename_i uy ut
    cases rt
    obtain ⟨bs, r1⟩ := Dp.reads I d y uy hy ry
    have hxs : PyData.canLayAll0 ds = true := SeqAt.canLay_of_shaped sl
    have hroom : X.A.units + 1 + min (PyData.depthAll ds) d.depth < cLine := room_in_shaped sd hu
    cases hl with
    | tup hs ha =>
      obtain ⟨its, rv, ⟨⟨cls, dd, data, sls⟩, ho, hc, n, hdt⟩, hlen⟩ := I.tuple hs
      simp only at hc hdt
      subst hc hdt
      obtain ⟨as, h4⟩ := Dp.readsAll I ds _ its ha rv
      have hn : its.length = ds.length := SeqAt.ReadsAll.length ds its as h4
      have hmap : its.map (SeqAt.readOf s.heap) = ds := SeqAt.readsAll_map ds its as hxs h4
      have hvl := rv.length
      have hsl := sizeLine_eq
      obtain ⟨hjd, _⟩ := List.getElem?_eq_some_iff.mp hz
      have hjl : j < its.length := by omega
      have hj : j < its.toArray.size := by simpa using hjl
      have at_ : ∀ (m : Nat) (hm : m < its.toArray.size) (z' : PyData), ds[m]? = some z' → SeqAt.readOf s.heap its.toArray[m] = z' := by
        intro m hm z' hz'
        have hml : m < its.length := by simpa using hm
        rw [← hmap, List.getElem?_map, List.getElem?_eq_getElem hml] at hz'
        have e1 : SeqAt.readOf s.heap its[m] = z' := Option.some.inj (show some (SeqAt.readOf s.heap its[m]) = some z' from hz')
        simpa using e1
      refine call_meets PySem.F.slot_tuple_index ⟨_, ho, rfl⟩ PySem.F.entry_tuple_index (PySem.F.args_tuple_index_2 _ _)
        (TI.tuple_indexAt a its.toArray n dd sls uy (fun u => PyData.eqv (SeqAt.readOf s.heap u) d) j hj ?_ ?_) ⟨ho, SeqAt.items_eqAt (vs := its.toArray) (show ReadsAll s.heap its.toArray.toList ds as from h4) r1 hxs (SeqAt.canLay_of_shaped sd) hroom, ?_⟩
      · show PyData.eqv (SeqAt.readOf s.heap its.toArray[j]) d = true
        rw [at_ j hj z hz]
        exact hzj
      · intro m hm hmj
        have hmd : m < ds.length := by omega
        have hz' : ds[m]? = some ds[m] := List.getElem?_eq_getElem hmd
        show PyData.eqv (SeqAt.readOf s.heap its.toArray[m]) d = false
        rw [at_ m hm _ hz']
        exact hno m _ hmj hz'
      · exact ⟨.int (j : Nat), H, I.tok _, ⟨_, rfl⟩, q⟩
/-- the first place of an equal item -/
def idxD (d : D) : List D → Option Nat
  | [] => none
  | z :: zs => bif PyData.eqv z d then some 0 else (idxD d zs).map (· + 1)
theorem idxD_of {d : D} : ∀ {ds : List D} {j : Nat}, idxD d ds = some j → ∃ z, ds[j]? = some z ∧ PyData.eqv z d = true ∧ ∀ (m : Nat) (z' : D), m < j → ds[m]? = some z' → PyData.eqv z' d = false
  | [], _, h => by cases h
  | z :: zs, j, h => by
    unfold idxD at h
    cases c : PyData.eqv z d with
    | true =>
      rw [c] at h
      cases h
      exact ⟨z, rfl, c, fun m z' hm => by omega⟩
    | false =>
      rw [c] at h
      obtain ⟨k, hk, rfl⟩ := Option.map_eq_some_iff.mp (show (idxD d zs).map (· + 1) = some j from h)
      obtain ⟨w, h1, h2, h3⟩ := idxD_of hk
      refine ⟨w, by simpa using h1, h2, fun m z' hm hz => ?_⟩
      cases m with
      | zero => cases (show some z = some z' from hz); exact c
      | succ m => exact h3 m z' (by omega) (by simpa using hz)
def hIndex (lst : Bool) (d e : D) : Option Rv := match d with
  | .list ds => bif lst && SeqAt.shaped (.list ds) && SeqAt.shaped e then (idxD e ds).map fun j => .val (.int (j : Nat)) else none
  | .tuple ds => bif !lst && SeqAt.shaped (.tuple ds) && SeqAt.shaped e then (idxD e ds).map fun j => .val (.int (j : Nat)) else none
  | _ => none
def isL : Rv → M Rv := fun r fs => match r.rd fs with
  | some (.list _) => some (.inr r, fs)
  | _ => none
def isT : Rv → M Rv := fun r fs => match r.rd fs with
  | some (.tuple _) => some (.inr r, fs)
  | _ => none
/-- o.index(e), o a list (of whatever owner) -/
def fIndexL (f g : M Rv) : M Rv := bnd f fun x => bnd (isL x) fun _ => bnd g fun y => rd2 (hIndex true) x y
def fIndexT (f g : M Rv) : M Rv := bnd f fun x => bnd (isT x) fun _ => bnd g fun y => rd2 (hIndex false) x y
theorem fe_indexL {o e : Expr} {f g : M Rv} {apos cpos : Pos} (hu : X.A.units + 65 < cLine) (hf : FE X J W o f) (hg : FE X J W e g) (hbase : attributeBase o "index" X.env (eval o X.env) = eval o X.env := by rfl)
    (hfew : ((backTo cpos (starEach [e] X.env)).all (fun x => !x.1) && (backToKw cpos (keywordEach [] X.env)).all (fun x => x.1.isSome)
      && decide (([e]).length + ([] : List Keyword).length + (if ([] : List Keyword).isEmpty then 0 else 1) < 30)) = true := by rfl)
    (hline : (apos.endLine == cpos.line) = true := by rfl) (hs : starEach [e] X.env = (false, eval e X.env) :: starEach [] X.env := by rfl) (hplain : (backTo cpos (starEach [] X.env)).any (·.1) = false := by rfl) :
    FE X J W (.Call (.Attribute o "index" apos) [e] [] cpos) (fIndexL f g) := by
  obtain ⟨t, pe, s⟩ := hf
  obtain ⟨t2, pe2, s2⟩ := hg
  refine ⟨_, pe_bm F.plainAttrs_list F.slot_list_index F.type_list_index (mt_indexD hu) pe (pa_cons pe2 pa_nil hs) hbase hfew hline hs hplain, fun σ H S fs Q res fs' R e p => ?_⟩
  refine s.bind R e p fun rx fs1 x H1 S1 R1 r1 e1 p1 st1 sh1 => ?_
  unfold bnd isL at e1
  cases q : rx.rd fs1 with
  | none => simp only [q] at e1; cases e1
  | some d =>
    cases d with
    | list ds =>
      simp only [q] at e1
      obtain ⟨a, xs, rfl, qa, ra⟩ := (r1.rd R1 q).lst
      refine ⟨.inl ⟨rfl, _, SqL.of qa⟩, ?_⟩
      have e1' : bnd g (fun y => rd2 (hIndex true) rx y) fs1 = some (res, fs') := e1
      refine s2.bind R1 e1' p1 fun ry fs2 y H2 S2 R2 r2 e2 p2 st2 sh2 => ?_
      unfold rd2 at e2
      split at e2
      · rename_i d d' q1 q2
        split at e2
        · rename_i rv q3
          cases e2
          have b1 := (r1.later st2 sh2).rd R2 q1
          have b2 := r2.rd R2 q2
          unfold hIndex at q3
          split at q3
          · rename_i ds'
            cases c : (true && SeqAt.shaped (.list ds') && SeqAt.shaped d') with
            | false => rw [c] at q3; cases q3
            | true =>
              rw [c] at q3
              obtain ⟨j, hj, rfl⟩ := Option.map_eq_some_iff.mp (show (idxD d' ds').map _ = some rv from q3)
              simp only [Bool.true_and, Bool.and_eq_true] at c
              obtain ⟨z, z1, z2, z3⟩ := idxD_of hj
              exact ⟨_, y, d', ds', j, z, rfl, rfl, b1.dp R2.sub c.1, b2.dp R2.sub c.2, c.1, c.2, z1, z2, z3, p2.here R2 (Rp.int _)⟩
          · rename_i ds'
            have : (!true && SeqAt.shaped (.tuple ds') && SeqAt.shaped d') = false := by simp
            rw [this] at q3; cases q3
          · cases q3
        · cases e2
      · cases e2
    | _ => simp only [q] at e1; cases e1
theorem fe_indexT {o e : Expr} {f g : M Rv} {apos cpos : Pos} (hu : X.A.units + 65 < cLine) (hf : FE X J W o f) (hg : FE X J W e g) (hbase : attributeBase o "index" X.env (eval o X.env) = eval o X.env := by rfl)
    (hfew : ((backTo cpos (starEach [e] X.env)).all (fun x => !x.1) && (backToKw cpos (keywordEach [] X.env)).all (fun x => x.1.isSome)
      && decide (([e]).length + ([] : List Keyword).length + (if ([] : List Keyword).isEmpty then 0 else 1) < 30)) = true := by rfl)
    (hline : (apos.endLine == cpos.line) = true := by rfl) (hs : starEach [e] X.env = (false, eval e X.env) :: starEach [] X.env := by rfl) (hplain : (backTo cpos (starEach [] X.env)).any (·.1) = false := by rfl) :
    FE X J W (.Call (.Attribute o "index" apos) [e] [] cpos) (fIndexT f g) := by
  obtain ⟨t, pe, s⟩ := hf
  obtain ⟨t2, pe2, s2⟩ := hg
  refine ⟨_, pe_bmT F.slot_tuple_index F.type_tuple_index (mt_indexTD hu) pe (pa_cons pe2 pa_nil hs) hbase hfew hline hs hplain, fun σ H S fs Q res fs' R e p => ?_⟩
  refine s.bind R e p fun rx fs1 x H1 S1 R1 r1 e1 p1 st1 sh1 => ?_
  unfold bnd isT at e1
  cases q : rx.rd fs1 with
  | none => simp only [q] at e1; cases e1
  | some d =>
    cases d with
    | tuple ds =>
      simp only [q] at e1
      obtain ⟨a, xs, rfl, qa, pa, ra⟩ := (r1.rd R1 q).tup
      refine ⟨⟨_, _, rfl, Same.seqT R1.sub qa, pa.mono R1.sub⟩, ?_⟩
      have e1' : bnd g (fun y => rd2 (hIndex false) rx y) fs1 = some (res, fs') := e1
      refine s2.bind R1 e1' p1 fun ry fs2 y H2 S2 R2 r2 e2 p2 st2 sh2 => ?_
      unfold rd2 at e2
      split at e2
      · rename_i d d' q1 q2
        split at e2
        · rename_i rv q3
          cases e2
          have b1 := (r1.later st2 sh2).rd R2 q1
          have b2 := r2.rd R2 q2
          unfold hIndex at q3
          split at q3
          · rename_i ds'
            have : (false && SeqAt.shaped (.list ds') && SeqAt.shaped d') = false := by simp
            rw [this] at q3; cases q3
          · rename_i ds'
            cases c : (!false && SeqAt.shaped (.tuple ds') && SeqAt.shaped d') with
            | false => rw [c] at q3; cases q3
            | true =>
              rw [c] at q3
              obtain ⟨j, hj, rfl⟩ := Option.map_eq_some_iff.mp (show (idxD d' ds').map _ = some rv from q3)
              simp only [Bool.not_false, Bool.true_and, Bool.and_eq_true] at c
              obtain ⟨z, z1, z2, z3⟩ := idxD_of hj
              exact ⟨_, y, d', ds', j, z, rfl, rfl, b1.dp R2.sub c.1, b2.dp R2.sub c.2, c.1, c.2, z1, z2, z3, p2.here R2 (Rp.int _)⟩
          · cases q3
        · cases e2
      · cases e2
    | _ => simp only [q] at e1; cases e1
/-! zip, enumerate -/
def zipD : List D → List D → List D
  | a :: as, b :: bs => .tuple [a, b] :: zipD as bs
  | _, _ => []
theorem zipD_length : ∀ as bs : List D, (zipD as bs).length = min as.length bs.length
  | [], _ => by simp [zipD]
  | _ :: _, [] => by simp [zipD]
  | _ :: as, _ :: bs => by simp [zipD, zipD_length as bs]
theorem zipD_get : ∀ {as bs : List D} {i : Nat} {a b : D}, as[i]? = some a → bs[i]? = some b → (zipD as bs)[i]? = some (.tuple [a, b])
  | [], _, _, _, _, h, _ => by simp at h
  | _ :: _, [], _, _, _, _, h => by simp at h
  | _ :: as, _ :: bs, 0, a, b, h1, h2 => by simp at h1 h2; subst h1 h2; rfl
  | _ :: as, _ :: bs, i + 1, a, b, h1, h2 => by
    have := zipD_get (as := as) (bs := bs) (i := i) (a := a) (b := b) (by simpa using h1) (by simpa using h2)
    simpa [zipD] using this
theorem rpk_pair {K : PySem.W.Frag} {S H : Hp} {x y : V} {a b : D} {T : Addr} (sub : Same S H) (hT : H T = none) (r1 : Rp K S x a) (r2 : Rp K S y b) : RpK false K (upd S T (.tup [x, y])) (.ref T) (.tuple [a, b]) := by
  have g : Same S (upd S T (.tup [x, y])) := fun c u e => by rw [upd_ne (ne_of_none (sub _ _ e) hT)]; exact e
  exact ⟨T, [x, y], [a, b], rfl, rfl, .inl (.inl upd_same), .cons (r1.mono g) (.cons (r2.mono g) .nil)⟩
theorem it_zip {K : PySem.W.Frag} {S : Hp} {a b : Addr} {xs ys : List V} {ds es : List D} (h : SqL K S a xs) (r : Rps K S xs ds) (h2 : SqL K S b ys) (r2 : Rps K S ys es) : ItOk false K S (Itz K a b) (zipD ds es) where
  go := fun i H S' hi s1 s2 => by
    rw [zipD_length] at hi
    have l1 := r.length
    have l2 := r2.length
    exact ⟨xs, ys, xs[i]'(by omega), ys[i]'(by omega), L2.Same.seq (s1.trans s2) h, L2.Same.seq (s1.trans s2) h2, by simp, by simp⟩
  yld := fun i H S' x H' hi s1 s2 y => by
    obtain ⟨T, u, w, rfl, hT, rfl, q1, q2⟩ := y
    obtain ⟨d, h3, h4⟩ := r.get' (q1 xs (L2.Same.seq (s1.trans s2) h))
    obtain ⟨e, h5, h6⟩ := r2.get' (q2 ys (L2.Same.seq (s1.trans s2) h2))
    exact ⟨_, _, zipD_get h3 h5, stp_newS (o := .tup [u, w]) hT s2, same_newS hT s2, rpk_pair s2 hT (h4.mono s1) (h6.mono s1)⟩
  stop := fun H S' s1 s2 => by
    refine ⟨xs, ys, L2.Same.seq (s1.trans s2) h, L2.Same.seq (s1.trans s2) h2, ?_⟩
    rw [zipD_length, r.length, r2.length]
    omega
theorem it_zipT {K : PySem.W.Frag} {S : Hp} {a b : Addr} {xs ys : List V} {ds es : List D} (h : SqT K S a xs) (r : Rps K S xs ds) (h2 : SqT K S b ys) (r2 : Rps K S ys es) : ItOk false K S (RZ.ItzT K a b) (zipD ds es) where
  go := fun i H S' hi s1 s2 => by
    rw [zipD_length] at hi
    have l1 := r.length
    have l2 := r2.length
    exact ⟨xs, ys, xs[i]'(by omega), ys[i]'(by omega), Same.seqT (s1.trans s2) h, Same.seqT (s1.trans s2) h2, by simp, by simp⟩
  yld := fun i H S' x H' hi s1 s2 y => by
    obtain ⟨T, u, w, rfl, hT, rfl, q1, q2⟩ := y
    obtain ⟨d, h3, h4⟩ := r.get' (q1 xs (Same.seqT (s1.trans s2) h))
    obtain ⟨e, h5, h6⟩ := r2.get' (q2 ys (Same.seqT (s1.trans s2) h2))
    exact ⟨_, _, zipD_get h3 h5, stp_newS (o := .tup [u, w]) hT s2, same_newS hT s2, rpk_pair s2 hT (h4.mono s1) (h6.mono s1)⟩
  stop := fun H S' s1 s2 => by
    refine ⟨xs, ys, Same.seqT (s1.trans s2) h, Same.seqT (s1.trans s2) h2, ?_⟩
    rw [zipD_length, r.length, r2.length]
    omega
def fiZip (f : M (List D)) : M (List D) := bnd f fun ds fs => match ds with
  | [.list a, .list b] => some (.inr (zipD a b), fs)
  | [.tuple a, .tuple b] => some (.inr (zipD a b), fs)
  | _ => none
theorem fi_zip {e e2 : Expr} {gs : M (List D)} {elts : List Expr} {kk : Nat} {tpos p pos : Pos} (hg : Gl X "zip") (hm : X.mg "zip" = none) (ha : FDs X J W [e, e2] gs)
    (hs : starEach [e, e2] X.env = (false, eval e X.env) :: starEach [e2] X.env := by rfl) (hpl : (backTo pos (starEach [e2] X.env)).any (·.1) = false := by rfl) :
    FI X J W false (.Tuple elts kk tpos) (.Call (.Name "zip" p) [e, e2] [] pos) (fiZip gs) := by
  obtain ⟨t, pa, s⟩ := ha
  refine ⟨_, RZ.pi_zipA hg hm pa hs hpl, fun σ H S fs Q res fs' R e p => ?_⟩
  refine s.bind R e p fun ds fs1 vs H1 S1 R1 r1 e1 p1 _ _ => ?_
  try dsimp only at e1
  split at e1
  · cases e1
    cases r1 with
    | cons q1 r1 =>
      cases r1 with
      | cons q2 r1 =>
        cases r1
        cases q1 with
        | lst z1 z2 =>
          cases q2 with
          | lst z3 z4 => exact ⟨_, _, _, _, rfl, .inl ⟨SqL.of (R1.sub _ _ z1), SqL.of (R1.sub _ _ z3), p1.here R1 (it_zip (SqL.of z1) z2 (SqL.of z3) z4)⟩⟩
  · cases e1
    cases r1 with
    | cons q1 r1 =>
      cases r1 with
      | cons q2 r1 =>
        cases r1
        cases q1 with
        | tup z1 _ z2 =>
          cases q2 with
          | tup z3 _ z4 => exact ⟨_, _, _, _, rfl, .inr ⟨Same.seqT R1.sub z1, Same.seqT R1.sub z3, p1.here R1 (it_zipT z1 z2 z3 z4)⟩⟩
  · cases e1
def enumD : Nat → List D → List D
  | _, [] => []
  | k, d :: ds => .tuple [.int (k : Nat), d] :: enumD (k + 1) ds
theorem enumD_length : ∀ (k : Nat) (ds : List D), (enumD k ds).length = ds.length
  | _, [] => rfl
  | k, d :: ds => by simp [enumD, enumD_length (k + 1) ds]
theorem enumD_get : ∀ {k : Nat} {ds : List D} {i : Nat} {d : D}, ds[i]? = some d → (enumD k ds)[i]? = some (.tuple [.int ((k + i : Nat)), d])
  | _, [], _, _, h => by simp at h
  | k, _ :: ds, 0, d, h => by simp at h; subst h; rfl
  | k, _ :: ds, i + 1, d, h => by
    have := enumD_get (k := k + 1) (ds := ds) (i := i) (d := d) (by simpa using h)
    have e : k + 1 + i = k + (i + 1) := by omega
    rw [e] at this
    simpa [enumD] using this
theorem it_enum {K : PySem.W.Frag} {S : Hp} {a : Addr} {xs : List V} {ds : List D} (h : SqL K S a xs) (r : Rps K S xs ds) : ItOk false K S (Ite K a) (enumD 0 ds) where
  go := fun i H S' hi s1 s2 => by
    rw [enumD_length] at hi
    exact ⟨xs, xs[i]'(by rw [r.length]; exact hi), L2.Same.seq (s1.trans s2) h, by simp⟩
  yld := fun i H S' x H' hi s1 s2 y => by
    obtain ⟨T, u, rfl, hT, rfl, q1⟩ := y
    obtain ⟨d, h3, h4⟩ := r.get' (q1 xs (L2.Same.seq (s1.trans s2) h))
    refine ⟨_, _, enumD_get h3, stp_newS (o := .tup [.int (i : Nat), u]) hT s2, same_newS hT s2, ?_⟩
    rw [Nat.zero_add]
    exact rpk_pair s2 hT (Rp.int _) (h4.mono s1)
  stop := fun H S' s1 s2 => by
    refine ⟨xs, L2.Same.seq (s1.trans s2) h, ?_⟩
    rw [enumD_length, r.length]
    exact Nat.le_refl _
def fiEnum (f : M (List D)) : M (List D) := bnd f fun ds fs => match ds with
  | [.list a] => some (.inr (enumD 0 a), fs)
  | _ => none
theorem fi_enum {e : Expr} {gs : M (List D)} {elts : List Expr} {kk : Nat} {tpos p pos : Pos} (hg : Gl X "enumerate") (hm : X.mg "enumerate" = none) (ha : FDs X J W [e] gs)
    (hs : starEach [e] X.env = [(false, eval e X.env)] := by rfl) :
    FI X J W false (.Tuple elts kk tpos) (.Call (.Name "enumerate" p) [e] [] pos) (fiEnum gs) := by
  obtain ⟨t, pa, s⟩ := ha
  refine ⟨_, pi_enum hg hm pa hs, fun σ H S fs Q res fs' R e p => ?_⟩
  refine s.bind R e p fun ds fs1 vs H1 S1 R1 r1 e1 p1 _ _ => ?_
  try dsimp only at e1
  split at e1
  · cases e1
    cases r1 with
    | cons q1 r1 =>
      cases r1
      cases q1 with
      | lst z1 z2 => exact ⟨_, _, rfl, SqL.of (R1.sub _ _ z1), p1.here R1 (it_enum (SqL.of z1) z2)⟩
  · cases e1
end
end Fx

namespace Fx
open PySem PySem.Spec PyProof.Rows L2
section
variable {X : Cx} {J : Inf} {W : WX} {e tg : Expr} {st : Bool}
/-! ### one rule or another, as the values are -/
theorem FE.or {f f1 f2 : M Rv} (h1 : FE X J W e f1) (h2 : FE X J W e f2) (h : ∀ fs r, f fs = some r → f1 fs = some r ∨ f2 fs = some r) : FE X J W e f := by
  obtain ⟨t1, p1, s1⟩ := h1
  obtain ⟨t2, p2, s2⟩ := h2
  refine ⟨fun σ H Q => t1 σ H Q ∨ t2 σ H Q, ⟨fun pins s σ H Q I q => q.elim (fun q => p1.run pins s σ H Q I q) fun q => p2.run pins s σ H Q I q⟩, fun σ H S fs Q res fs' R e p => ?_⟩
  rcases h fs _ e with e | e
  · exact .inl (s1 σ H S fs Q res fs' R e p)
  · exact .inr (s2 σ H S fs Q res fs' R e p)
theorem FI.or {f f1 f2 : M (List D)} (h1 : FI X J W st tg e f1) (h2 : FI X J W st tg e f2) (h : ∀ fs r, f fs = some r → f1 fs = some r ∨ f2 fs = some r) : FI X J W st tg e f := by
  obtain ⟨t1, p1, s1⟩ := h1
  obtain ⟨t2, p2, s2⟩ := h2
  refine ⟨fun σ H Q => t1 σ H Q ∨ t2 σ H Q, ⟨fun pins s σ H Q I q => q.elim (fun q => p1.run pins s σ H Q I q) fun q => p2.run pins s σ H Q I q⟩, fun σ H S fs Q res fs' R e p => ?_⟩
  rcases h fs _ e with e | e
  · exact .inl (s1 σ H S fs Q res fs' R e p)
  · exact .inr (s2 σ H S fs Q res fs' R e p)
def asS : D → M (List D) := fun d fs => match d with
  | .list ds => some (.inr ds, fs)
  | .tuple ds => some (.inr ds, fs)
  | _ => none
def fiS (f : M D) : M (List D) := bnd f asS
theorem fi_seq {f : M Rv} (he : FE X J W e f) : FI X J W true tg e (fiS (fD f)) := (fi_list he).or (fi_tup he) fun fs r q => by
  unfold fiS bnd at q
  unfold fiL fiT bnd
  split at q
  · cases q
  · rename_i c fs1 q1
    left
    exact q
  · rename_i d fs1 q1
    cases d with
    | list ds => exact .inl q
    | tuple ds => exact .inr q
    | _ => cases q
def fIndex (f g : M Rv) : M Rv := fun fs => match fIndexL f g fs with
  | some r => some r
  | none => fIndexT f g fs
theorem fe_index {o e : Expr} {f g : M Rv} {apos cpos : Pos} (hu : X.A.units + 65 < cLine) (hf : FE X J W o f) (hg : FE X J W e g) (hbase : attributeBase o "index" X.env (eval o X.env) = eval o X.env := by rfl)
    (hfew : ((backTo cpos (starEach [e] X.env)).all (fun x => !x.1) && (backToKw cpos (keywordEach [] X.env)).all (fun x => x.1.isSome)
      && decide (([e]).length + ([] : List Keyword).length + (if ([] : List Keyword).isEmpty then 0 else 1) < 30)) = true := by rfl)
    (hline : (apos.endLine == cpos.line) = true := by rfl) (hs : starEach [e] X.env = (false, eval e X.env) :: starEach [] X.env := by rfl) (hplain : (backTo cpos (starEach [] X.env)).any (·.1) = false := by rfl) :
    FE X J W (.Call (.Attribute o "index" apos) [e] [] cpos) (fIndex f g) := (fe_indexL hu hf hg hbase hfew hline hs hplain).or (fe_indexT hu hf hg hbase hfew hline hs hplain) fun fs r q => by
  unfold fIndex at q
  split at q
  · rename_i r' q1
    cases q
    exact .inl q1
  · exact .inr q
end
theorem Room.u65 {k : Nat} {A : Around} (r : Room k A) : A.units + 65 < cLine := by have := r.un; omega
/-! ### the defs of the text -/
/-- a def's facts -/
structure Gd (K : PySem.W.Frag) (mg : Str → Option Value) (x : Str) (st : Stmt) (ps : List Str) where
  f : Addr
  fd : FuncData
  fn : Fun K x x st f fd
  b : Binds K fd ps []
  m : mg x = some (.ref f)
section
variable {P : Program} {w : World} {K : PySem.W.Frag} {mg : Str → Option Value} {base : Heap}
/-- the law, of a script -/
def spScr (K : PySem.W.Frag) (G : Fn) : Sp := fun vs H Q _ => ∃ (a : Addr) (ns : List Int), vs = [.ref a] ∧ SqL K H a (ns.map V.int) ∧ G [.dat (.dict [(.none, .list (ns.map PyData.int))])] = some (.inr (false, .bool true), [.no]) ∧ ∀ H', Q (.bl true) H'
theorem FnS.law {k : Nat} {f : Addr} {fd : FuncData} {x : Str} {G : Fn} (F : FnS P w K mg base k f fd [x] G) : FnOk P w K mg base (L2.CX P w) k f fd [x] (spScr K G) := F.imp fun vs H Q E h => by
  obtain ⟨a, ns, rfl, hS, e, q⟩ := h
  refine ⟨H, _, _, _, Same.refl _, ⟨rfl, fun i d z => ?_, fun i n d z => ?_, fun i j n m d e p z => ?_⟩, e, fun H' S' sub st o => ?_⟩
  · cases i with
    | zero => cases z; exact ⟨_, rfl, .scr hS (Rps.of_ints ns)⟩
    | succ i => simp at z
  · cases i with
    | zero => cases z
    | succ i => simp at z
  · cases i with
    | zero => cases z
    | succ i => simp at z
  · intro v r
    cases (show Rp K S' v (.bool true) from r)
    exact q H'
end
abbrev scrD (ns : List Int) : List Sl := [.dat (.dict [(.none, .list (ns.map PyData.int))])]
/-- the head -/
theorem law_head {l : PySem.W.OpenLaw} {n k : Nat} {q : Program} {loose : List Str} {XP : (Str → Option Value) → Heap → Prop} {YP : World → Heap → Prop} {d : DefRec} {K : Params → PySem.W.Frag} {x : Str} (G : Fn)
    (hn : l.most = some n) (hn2 : n ≤ sizeLine) (hdf : d.params.defaults = []) (hr : Room k callerA)
    (hY : ∀ (w : World) (h : Heap), YP w h → (K w.params).In h)
    (F : ∀ (w : World) (mg : Str → Option Value) (fa : Addr) (h : Heap), (K w.params).In h → h.Ns mainGlobals mg → mg d.name = some (.ref fa) →
      ∃ fd : FuncData, (∀ (s : Shared) (u : Value), BindsTo s fd ⟨[u], []⟩ [(x, u)]) ∧ ∀ base : Heap, FnS l.prog w (K w.params) mg base k fa fd [x] G)
    (hG : ∀ ns : List Int, ns.length ≤ n → (∀ z ∈ ns, Builtin.Int.intBits z ≤ 1048576) → G (scrD ns) = some (.inr (false, .bool true), [.no])) :
    PySem.W.WalkO q loose XP YP l.row.toRowW d [] (fun f vs => PySem.call f vs) := by
  refine L2.walk_ofB (x := x) (CX := fun w => L2.CX l.prog w) (sp := fun w => spScr (K w.params) G) hn hn2 hdf hr hY (fun w mg fa h KX hm ha => ?_) (fun w H a ns hl hb _ hS => ⟨a, ns, rfl, hS, hG ns hl hb, fun _ => rfl⟩) fun w H s e s' h => ?_
  · obtain ⟨fd, h1, h2⟩ := F w mg fa h KX hm ha
    exact ⟨fd, h1, fun base _ _ => (h2 base).law⟩
  · obtain ⟨_, _, _, _, _, _, _, _, _, _, _, _, z⟩ := h
    exact z
end Fx

namespace Fx
open PySem PySem.Spec PyProof.Rows L2
/-! ### reading by equations -/
theorem atI_n0 {α : Type} (x : α) (xs : List α) : atI (x :: xs) 0 = some x := by
  unfold atI ixN
  rw [if_pos (Int.le_refl 0), if_pos (by rw [List.length_cons]; omega)]
  rfl
theorem atI_n1 {α : Type} (x y : α) (xs : List α) : atI (x :: y :: xs) 1 = some y := by
  unfold atI ixN
  rw [if_pos (by omega), if_pos (by rw [List.length_cons, List.length_cons]; omega)]
  rfl
theorem atI_n2 {α : Type} (x y z : α) (xs : List α) : atI (x :: y :: z :: xs) 2 = some z := by
  unfold atI ixN
  rw [if_pos (by omega), if_pos (by simp only [List.length_cons]; omega)]
  rfl
theorem atI_n3 {α : Type} (x y z u : α) (xs : List α) : atI (x :: y :: z :: u :: xs) 3 = some u := by
  unfold atI ixN
  rw [if_pos (by omega), if_pos (by simp only [List.length_cons]; omega)]
  rfl
theorem atI_natE {α : Type} (xs : List α) (j : Nat) : atI xs (j : Int) = xs[j]? := by
  unfold atI ixN
  rw [if_pos (Int.natCast_nonneg j)]
  by_cases h : j < xs.length
  · rw [if_pos (by omega)]
    rfl
  · rw [if_neg (by omega), List.getElem?_eq_none (by omega)]
    rfl
theorem ixN_natE (n j : Nat) : ixN n (j : Int) = if j < n then some j else none := by
  unfold ixN
  rw [if_pos (Int.natCast_nonneg j)]
  by_cases h : j < n
  · rw [if_pos (by omega), if_pos h]
    rfl
  · rw [if_neg (by omega), if_neg h]
theorem ixN_n0 (n : Nat) : ixN (n + 1) 0 = some 0 := by
  unfold ixN
  rw [if_pos (by omega), if_pos (by omega)]
  rfl
theorem ixN_10 : ixN 1 0 = some 0 := rfl
theorem ixN_20 : ixN 2 0 = some 0 := rfl
theorem ixN_21 : ixN 2 1 = some 1 := rfl
theorem szl (n : Nat) (h : n ≤ 16777216) : n ≤ sizeLine := by rw [sizeLine_eq]; exact h
theorem sz0 : (0 ≤ sizeLine) = True := eq_true (szl 0 (by decide))
theorem sz1 : (1 ≤ sizeLine) = True := eq_true (szl 1 (by decide))
theorem sz2 : (2 ≤ sizeLine) = True := eq_true (szl 2 (by decide))
theorem sz3 : (3 ≤ sizeLine) = True := eq_true (szl 3 (by decide))
theorem sz4 : (4 ≤ sizeLine) = True := eq_true (szl 4 (by decide))
theorem sz5 : (5 ≤ sizeLine) = True := eq_true (szl 5 (by decide))
theorem sz6 : (6 ≤ sizeLine) = True := eq_true (szl 6 (by decide))
theorem sz7 : (7 ≤ sizeLine) = True := eq_true (szl 7 (by decide))
theorem sz8 : (8 ≤ sizeLine) = True := eq_true (szl 8 (by decide))
/-- a statement that goes on -/
theorem sCons_nx {g h : SM} {fs fs1 : Fs} (e : g fs = some (.nx, fs1)) : sCons g h fs = h fs1 := by unfold sCons; rw [e]
theorem sCons_ret {g h : SM} {fs fs1 : Fs} {fr : Bool} {d : D} (e : g fs = some (.ret fr d, fs1)) : sCons g h fs = some (.ret fr d, fs1) := by unfold sCons; rw [e]
theorem sCons_ex {g h : SM} {fs fs1 : Fs} {c : Cls} (e : g fs = some (.ex c, fs1)) : sCons g h fs = some (.ex c, fs1) := by unfold sCons; rw [e]
theorem sCons_ct {g h : SM} {fs fs1 : Fs} (e : g fs = some (.ct, fs1)) : sCons g h fs = some (.ct, fs1) := by unfold sCons; rw [e]
theorem sCons_bk {g h : SM} {fs fs1 : Fs} (e : g fs = some (.bk, fs1)) : sCons g h fs = some (.bk, fs1) := by unfold sCons; rw [e]
theorem mkFn_ret {k N : Nat} {g : SM} {as : List Sl} {fs : Fs} {fr : Bool} {d : D} (hl : as.length = k) (e : g (as ++ List.replicate (N - k) .no) = some (.ret fr d, fs)) : mkFn k N g as = some (.inr (fr, d), outs k 0 fs) := by
  unfold mkFn; rw [if_pos hl, e]
theorem mkFn_nx {k N : Nat} {g : SM} {as : List Sl} {fs : Fs} (hl : as.length = k) (e : g (as ++ List.replicate (N - k) .no) = some (.nx, fs)) : mkFn k N g as = some (.inr (false, .none), outs k 0 fs) := by
  unfold mkFn; rw [if_pos hl, e]
theorem mkFn_ex {k N : Nat} {g : SM} {as : List Sl} {fs : Fs} {c : Cls} (hl : as.length = k) (e : g (as ++ List.replicate (N - k) .no) = some (.ex c, fs)) : mkFn k N g as = some (.inl c, outs k 0 fs) := by
  unfold mkFn; rw [if_pos hl, e]
theorem bnd_inr {α β : Type} {f : M α} {g : α → M β} {fs fs1 : Fs} {a : α} (e : f fs = some (.inr a, fs1)) : bnd f g fs = g a fs1 := by unfold bnd; rw [e]
theorem bndS_inr {α : Type} {f : M α} {g : α → SM} {fs fs1 : Fs} {a : α} (e : f fs = some (.inr a, fs1)) : bndS f g fs = g a fs1 := by unfold bndS; rw [e]
/-! loops -/
theorem sWhile_stop {c : M Bool} {b : SM} {fs fs1 : Fs} (h : c fs = some (.inr false, fs1)) : sWhile c b fs = some (.nx, fs1) := by
  rw [sWhile_eq]; unfold wStep; rw [h]
theorem sWhile_turn {c : M Bool} {b : SM} {fs fs1 fs2 : Fs} (h : c fs = some (.inr true, fs1)) (h2 : b fs1 = some (.nx, fs2)) : sWhile c b fs = sWhile c b fs2 := by
  rw [sWhile_eq]; unfold wStep; rw [h]; dsimp only; rw [h2]
theorem sWhile_ret {c : M Bool} {b : SM} {fs fs1 fs2 : Fs} {fr : Bool} {d : D} (h : c fs = some (.inr true, fs1)) (h2 : b fs1 = some (.ret fr d, fs2)) : sWhile c b fs = some (.ret fr d, fs2) := by
  rw [sWhile_eq]; unfold wStep; rw [h]; dsimp only; rw [h2]
theorem sWhile_brk {c : M Bool} {b : SM} {fs fs1 fs2 : Fs} (h : c fs = some (.inr true, fs1)) (h2 : b fs1 = some (.bk, fs2)) : sWhile c b fs = some (.nx, fs2) := by
  rw [sWhile_eq]; unfold wStep; rw [h]; dsimp only; rw [h2]
theorem forL_nx {g : D → Fs → Option Fs} {b : SM} {d : D} {ds : List D} {fs fs1 fs2 : Fs} (h : g d fs = some fs1) (h2 : b fs1 = some (.nx, fs2)) : forL g b (d :: ds) fs = forL g b ds fs2 := by
  show (match g d fs with | none => none | some fs1 => _) = _
  rw [h]; dsimp only; rw [h2]
theorem forL_ct {g : D → Fs → Option Fs} {b : SM} {d : D} {ds : List D} {fs fs1 fs2 : Fs} (h : g d fs = some fs1) (h2 : b fs1 = some (.ct, fs2)) : forL g b (d :: ds) fs = forL g b ds fs2 := by
  show (match g d fs with | none => none | some fs1 => _) = _
  rw [h]; dsimp only; rw [h2]
theorem forL_ret {g : D → Fs → Option Fs} {b : SM} {d : D} {ds : List D} {fs fs1 fs2 : Fs} {fr : Bool} {x : D} (h : g d fs = some fs1) (h2 : b fs1 = some (.ret fr x, fs2)) : forL g b (d :: ds) fs = some (.ret fr x, fs2) := by
  show (match g d fs with | none => none | some fs1 => _) = _
  rw [h]; dsimp only; rw [h2]
theorem forL_bk {g : D → Fs → Option Fs} {b : SM} {d : D} {ds : List D} {fs fs1 fs2 : Fs} (h : g d fs = some fs1) (h2 : b fs1 = some (.bk, fs2)) : forL g b (d :: ds) fs = some (.nx, fs2) := by
  show (match g d fs with | none => none | some fs1 => _) = _
  rw [h]; dsimp only; rw [h2]
theorem forL_nil {g : D → Fs → Option Fs} {b : SM} {fs : Fs} : forL g b [] fs = some (.nx, fs) := rfl
theorem sFor_of {f : M (List D)} {g : D → Fs → Option Fs} {b : SM} {fs fs1 : Fs} {ds : List D} (e : f fs = some (.inr ds, fs1)) : sFor f g b fs = forL g b ds fs1 := bndS_inr e
theorem sIf_t {c : M Bool} {g h : SM} {fs fs1 : Fs} (e : c fs = some (.inr true, fs1)) : sIf c g h fs = g fs1 := bndS_inr e
theorem sIf_f {c : M Bool} {g h : SM} {fs fs1 : Fs} (e : c fs = some (.inr false, fs1)) : sIf c g h fs = h fs1 := bndS_inr e
theorem forL_ind {g : D → Fs → Option Fs} {b : SM} (I : Nat → Fs → Prop) : ∀ (ds : List D) (k : Nat) (fs : Fs), I k fs → (∀ (i : Nat) (d : D) (fs : Fs), ds[i]? = some d → I (k + i) fs → ∃ fs1 fs2, g d fs = some fs1 ∧ (b fs1 = some (.nx, fs2) ∨ b fs1 = some (.ct, fs2)) ∧ I (k + i + 1) fs2) →
    ∃ fs', forL g b ds fs = some (.nx, fs') ∧ I (k + ds.length) fs'
  | [], k, fs, h, _ => ⟨fs, rfl, h⟩
  | d :: ds, k, fs, h, st => by
    obtain ⟨fs1, fs2, h1, h2, h3⟩ := st 0 d fs rfl h
    obtain ⟨fs', e, q⟩ := forL_ind I ds (k + 1) fs2 h3 fun i d' fs hd hI => by
      have := st (i + 1) d' fs (by simpa using hd) (by rw [show k + (i + 1) = k + 1 + i by omega]; exact hI)
      rwa [show k + (i + 1) = k + 1 + i by omega] at this
    refine ⟨fs', ?_, by rw [List.length_cons, show k + (ds.length + 1) = k + 1 + ds.length by omega]; exact q⟩
    rcases h2 with h2 | h2
    · rw [forL_nx h1 h2]; exact e
    · rw [forL_ct h1 h2]; exact e
theorem sWhile_ind {c : M Bool} {b : SM} (I : Nat → Fs → Prop) (P : Fs → Prop) (st : ∀ m fs, I m fs → (∃ fs1, c fs = some (.inr false, fs1) ∧ P fs1) ∨ ∃ fs1 fs2 m', m' < m ∧ c fs = some (.inr true, fs1) ∧ b fs1 = some (.nx, fs2) ∧ I m' fs2) :
    ∀ (m : Nat) (fs : Fs), I m fs → ∃ fs', sWhile c b fs = some (.nx, fs') ∧ P fs' := by
  intro m
  induction m using Nat.strongRecOn with
  | ind m ih =>
    intro fs h
    rcases st m fs h with ⟨fs1, h1, h2⟩ | ⟨fs1, fs2, m', h0, h1, h2, h3⟩
    · exact ⟨fs1, sWhile_stop h1, h2⟩
    · obtain ⟨fs', e, q⟩ := ih m' h0 fs2 h3
      exact ⟨fs', by rw [sWhile_turn h1 h2]; exact e, q⟩
/-! comprehensions -/
theorem lcL_turn {vs : List Nat} {g : D → Fs → Option Fs} {tt : M Bool} {fe : M Rv} {d : D} {ds acc : List D} {fs fs1 fs2 fs3 : Fs} {x : D} (h1 : g d fs = some fs1) (h2 : tt fs1 = some (.inr true, fs2)) (h3 : fD fe fs2 = some (.inr x, fs3)) (hz : acc.length < sizeLine) :
    lcL vs g tt fe (d :: ds) acc fs = lcL vs g tt fe ds (acc ++ [x]) (wipeF fs3 vs) := by
  simp only [lcL, h1, h2, h3, hz, if_true]
theorem lcL_skip {vs : List Nat} {g : D → Fs → Option Fs} {tt : M Bool} {fe : M Rv} {d : D} {ds acc : List D} {fs fs1 fs2 : Fs} (h1 : g d fs = some fs1) (h2 : tt fs1 = some (.inr false, fs2)) :
    lcL vs g tt fe (d :: ds) acc fs = lcL vs g tt fe ds acc (wipeF fs2 vs) := by
  simp only [lcL, h1, h2]
/-- the same slots at each turn -/
theorem lcL_filter {vs : List Nat} {g : D → Fs → Option Fs} {tt : M Bool} {fe : M Rv} (p : D → Bool) (F : D → D) (fs : Fs) : ∀ (ds acc : List D), acc.length + ds.length ≤ sizeLine →
    (∀ d ∈ ds, ∃ fs1 fs2, g d fs = some fs1 ∧ tt fs1 = some (.inr (p d), fs2) ∧ (p d = false → wipeF fs2 vs = fs) ∧ (p d = true → ∃ fs3, fD fe fs2 = some (.inr (F d), fs3) ∧ wipeF fs3 vs = fs)) →
    lcL vs g tt fe ds acc fs = some (acc ++ (ds.filter p).map F, fs)
  | [], acc, _, _ => by simp [lcL]
  | d :: ds, acc, hz, h => by
    rw [List.length_cons] at hz
    obtain ⟨fs1, fs2, h1, h2, h3, h4⟩ := h d List.mem_cons_self
    cases q : p d with
    | true =>
      obtain ⟨fs3, h5, h6⟩ := h4 q
      rw [q] at h2
      rw [lcL_turn h1 h2 h5 (by omega), h6, lcL_filter p F fs ds _ (by rw [List.length_append, List.length_singleton]; omega) fun e he => h e (List.mem_cons_of_mem _ he), List.filter_cons_of_pos q, List.map_cons, List.append_assoc]
      rfl
    | false =>
      rw [q] at h2
      rw [lcL_skip h1 h2, h3 q, lcL_filter p F fs ds _ (by omega) fun e he => h e (List.mem_cons_of_mem _ he), List.filter_cons_of_neg (by rw [q]; decide)]
theorem lcL_map {vs : List Nat} {g : D → Fs → Option Fs} {fe : M Rv} (F : D → D) (fs : Fs) (ds acc : List D) (hz : acc.length + ds.length ≤ sizeLine)
    (h : ∀ d ∈ ds, ∃ fs1, g d fs = some fs1 ∧ ∃ fs3, fD fe fs1 = some (.inr (F d), fs3) ∧ wipeF fs3 vs = fs) :
    lcL vs g tYesF fe ds acc fs = some (acc ++ ds.map F, fs) := by
  have := lcL_filter (vs := vs) (g := g) (tt := tYesF) (fe := fe) (fun _ => true) F fs ds acc hz fun d hd => by
    obtain ⟨fs1, h1, fs3, h2, h3⟩ := h d hd
    exact ⟨fs1, fs1, h1, rfl, (fun q => nomatch q), fun _ => ⟨fs3, h2, h3⟩⟩
  rw [this, List.filter_eq_self.mpr (by simp)]
/-- slots that change -/
theorem lcL_inv {vs : List Nat} {g : D → Fs → Option Fs} {fe : M Rv} (I : Fs → Prop) (G : D → Prop) : ∀ (ds acc : List D) (fs : Fs), acc.length + ds.length ≤ sizeLine → I fs →
    (∀ d ∈ ds, ∀ fs, I fs → ∃ fs1 fs3 x, g d fs = some fs1 ∧ fD fe fs1 = some (.inr x, fs3) ∧ G x ∧ I (wipeF fs3 vs)) →
    ∃ out fs', lcL vs g tYesF fe ds acc fs = some (acc ++ out, fs') ∧ I fs' ∧ out.length = ds.length ∧ ∀ x ∈ out, G x
  | [], acc, fs, _, hI, _ => ⟨[], fs, by simp [lcL], hI, rfl, fun x h => by cases h⟩
  | d :: ds, acc, fs, hz, hI, h => by
    rw [List.length_cons] at hz
    obtain ⟨fs1, fs3, x, h1, h2, h3, h4⟩ := h d List.mem_cons_self fs hI
    obtain ⟨out, fs', e1, e2, e3, e4⟩ := lcL_inv I G ds (acc ++ [x]) (wipeF fs3 vs) (by rw [List.length_append, List.length_singleton]; omega) h4 fun e he => h e (List.mem_cons_of_mem _ he)
    refine ⟨x :: out, fs', ?_, e2, by rw [List.length_cons, List.length_cons, e3], fun y hy => ?_⟩
    · rw [lcL_turn h1 rfl h2 (by omega), e1, List.append_assoc]; rfl
    · rcases List.mem_cons.mp hy with rfl | hy
      · exact h3
      · exact e4 y hy
theorem fLc_of {vs : List Nat} {f : M (List D)} {g : D → Fs → Option Fs} {tt : M Bool} {fe : M Rv} {fs fs1 fs2 : Fs} {ds out : List D} (e : f fs = some (.inr ds, fs1)) (h : lcL vs g tt fe ds [] (wipeF fs1 vs) = some (out, fs2)) : fLc vs f g tt fe fs = some (.inr (.fresh (.list out)), fs2) := by
  unfold fLc
  rw [bnd_inr e, h]
/-! slices -/
theorem cutL_to {α : Type} (xs : List α) (p : Nat) : cutL xs none (some (p : Int)) = xs.take p := by
  unfold cutL
  rw [HT.sIx_none, HT.sIx_nat, List.drop_zero, Nat.sub_zero, ← List.take_eq_take_min]
theorem cutL_from {α : Type} (xs : List α) (p : Nat) : cutL xs (some (p : Int)) none = xs.drop p := by
  unfold cutL
  rw [HT.sIx_none, HT.sIx_nat]
  by_cases h : p ≤ xs.length
  · rw [Nat.min_eq_left h]
    exact List.take_of_length_le (by rw [List.length_drop]; exact Nat.le_refl _)
  · rw [Nat.min_eq_right (by omega), List.drop_of_length_le (Nat.le_refl _), List.drop_of_length_le (by omega)]
    simp
theorem cutL_mid {α : Type} (xs : List α) (i j : Nat) : cutL xs (some (i : Int)) (some (j : Int)) = (xs.take j).drop i := by
  unfold cutL
  rw [HT.sIx_nat, HT.sIx_nat]
  apply List.ext_getElem?
  intro k
  simp only [List.getElem?_take, List.getElem?_drop]
  by_cases h : k < min j xs.length - min i xs.length
  · rw [if_pos h, if_pos (by omega), Nat.min_eq_left (by omega : i ≤ xs.length)]
  · rw [if_neg h]
    by_cases h2 : i + k < j
    · rw [if_pos h2, List.getElem?_eq_none (by omega)]
    · rw [if_neg h2]
theorem cutL_map {α β : Type} (f : α → β) (xs : List α) (lo hi : Option Int) : cutL (xs.map f) lo hi = (cutL xs lo hi).map f := by
  unfold cutL
  rw [List.length_map, List.map_take, List.map_drop]
theorem cutL_sub {α : Type} {xs : List α} {lo hi : Option Int} {x : α} (h : x ∈ cutL xs lo hi) : x ∈ xs := List.mem_of_mem_drop (List.mem_of_mem_take h)
theorem cutL_len {α : Type} (xs : List α) (lo hi : Option Int) : (cutL xs lo hi).length ≤ xs.length := by
  unfold cutL
  rw [List.length_take, List.length_drop]
  omega
/-! rising lists of ints -/
theorem sub_perm {α : Type} [BEq α] [LawfulBEq α] : ∀ {l m : List α}, l.Nodup → (∀ x ∈ l, x ∈ m) → ∃ r, (l ++ r).Perm m
  | [], m, _, _ => ⟨m, .refl _⟩
  | a :: l, m, h, hs => by
    rw [List.nodup_cons] at h
    obtain ⟨r, hr⟩ := sub_perm (l := l) (m := m.erase a) h.2 fun x hx => (List.mem_erase_of_ne (fun e : x = a => h.1 (by rw [← e]; exact hx))).mpr (hs x (List.mem_cons_of_mem _ hx))
    exact ⟨r, ((hr.cons a)).trans (List.perm_cons_erase (hs a List.mem_cons_self)).symm⟩
theorem perm_of_sub {α : Type} [BEq α] [LawfulBEq α] {l m : List α} (h : l.Nodup) (hs : ∀ x ∈ l, x ∈ m) (hl : l.length = m.length) : l.Perm m := by
  obtain ⟨r, hr⟩ := sub_perm h hs
  have := hr.length_eq
  rw [List.length_append] at this
  have e : r = [] := List.eq_nil_of_length_eq_zero (by omega)
  rw [e, List.append_nil] at hr
  exact hr
/-! numbers that fit -/
theorem bits_le {a : Int} {k : Nat} (h : a.natAbs < 2 ^ k) : Builtin.Int.intBits a ≤ k := PySem.intBits_le_iff.mpr h
theorem mulOk_of {a b : Int} (h : Builtin.Int.intBits a ≤ 64 ∨ Builtin.Int.intBits b ≤ 64 ∨ Builtin.Int.intBits a + Builtin.Int.intBits b ≤ 2 ^ 26) : mulOk a b = true := by
  unfold mulOk
  have e1 : shortFactorBits = 64 := rfl
  rw [Bool.not_eq_true', e1]
  rcases h with h | h | h
  · rw [decide_eq_false (by omega), Bool.false_and, Bool.false_and]
  · rw [decide_eq_false (p := Builtin.Int.intBits b > 64) (by omega), Bool.and_false, Bool.false_and]
  · have : Builtin.Int.intTooBig ((Builtin.Int.intBits a : Int) + Builtin.Int.intBits b) = false := by
      unfold Builtin.Int.intTooBig
      refine decide_eq_false ?_
      have e2 : bitsLine = 2 ^ 27 := by rfl
      rw [e2]
      omega
    rw [this, Bool.and_false]
theorem mulOk_l {a b : Int} (h : a.natAbs < 2 ^ 64) : mulOk a b = true := mulOk_of (.inl (bits_le h))
theorem mulOk_r {a b : Int} (h : b.natAbs < 2 ^ 64) : mulOk a b = true := mulOk_of (.inr (.inl (bits_le h)))
theorem mulOk_b {a b : Int} (h : Builtin.Int.intBits a + Builtin.Int.intBits b ≤ 2 ^ 26) : mulOk a b = true := mulOk_of (.inr (.inr h))
theorem bits64 {a : Int} {k : Nat} (h : a.natAbs < 2 ^ 64) (hk : 64 ≤ k) : Builtin.Int.intBits a ≤ k := Nat.le_trans (bits_le h) hk
theorem divOk_of {i j : Int} (h0 : j ≠ 0) (h : Builtin.Int.intBits j ≤ 9000) : divOk i j = true := by
  unfold divOk
  have e : (j != 0) = true := by simpa using h0
  rw [e, Bool.true_and]
  refine decide_eq_true ?_
  have h2 := PySem.intBits_le_iff.mp h
  exact (Nat.log2_lt (by omega)).mpr h2

theorem divOk_64 {i j : Int} (h0 : j ≠ 0) (h : j.natAbs < 2 ^ 64) : divOk i j = true := divOk_of h0 (bits64 h (by decide))
theorem shaped_int (a : Int) : SeqAt.shaped (.int a) = true := by simp [SeqAt.shaped, PyData.canLay0, PyData.depth]
theorem hEq_int (a b : Int) : hEq (.int a) (.int b) = some (.val (.bool (decide (a = b)))) := by
  unfold hEq
  rw [shaped_int, shaped_int, show PyData.eqv (.int a) (.int b) = decide (a = b) by simp only [PyData.eqv]; rfl]
  rfl
theorem hNe_int (a b : Int) : hNe (.int a) (.int b) = some (.val (.bool (!decide (a = b)))) := by
  unfold hNe
  rw [shaped_int, shaped_int, show PyData.eqv (.int a) (.int b) = decide (a = b) by simp only [PyData.eqv]; rfl]
  rfl
mutual
/-- no truths within, no dicts: equal is the same -/
def noB : D → Bool
  | .none => true
  | .int _ => true
  | .str s => PyData.strOk s
  | .bool _ => false
  | .list ds => noBs ds
  | .tuple ds => noBs ds
  | .dict _ => false
def noBs : List D → Bool
  | [] => true
  | d :: ds => noB d && noBs ds
end
mutual
theorem eqv_iff : ∀ {d e : D}, noB d = true → noB e = true → (PyData.eqv d e = true ↔ d = e)
  | .none, e, _, h => by cases e <;> simp_all [PyData.eqv, noB]
  | .int i, e, _, h => by cases e <;> simp_all [PyData.eqv, noB]
  | .str i, e, _, h => by cases e <;> simp_all [PyData.eqv, noB]
  | .bool _, _, h, _ => by simp [noB] at h
  | .dict _, _, h, _ => by simp [noB] at h
  | .list ds, e, h1, h2 => by
    cases e with
    | list es =>
      have := eqvAll_iff (ds := ds) (es := es) (by simpa [noB] using h1) (by simpa [noB] using h2)
      simp [PyData.eqv, this]
    | _ => simp_all [PyData.eqv, noB]
  | .tuple ds, e, h1, h2 => by
    cases e with
    | tuple es =>
      have := eqvAll_iff (ds := ds) (es := es) (by simpa [noB] using h1) (by simpa [noB] using h2)
      simp [PyData.eqv, this]
    | _ => simp_all [PyData.eqv, noB]
theorem eqvAll_iff : ∀ {ds es : List D}, noBs ds = true → noBs es = true → (PyData.eqvAll ds es = true ↔ ds = es)
  | [], [], _, _ => by simp [PyData.eqvAll]
  | [], _ :: _, _, _ => by simp [PyData.eqvAll]
  | _ :: _, [], _, _ => by simp [PyData.eqvAll]
  | d :: ds, e :: es, h1, h2 => by
    simp only [noBs, Bool.and_eq_true] at h1 h2
    have a := eqv_iff (d := d) (e := e) h1.1 h2.1
    have b := eqvAll_iff (ds := ds) (es := es) h1.2 h2.2
    simp [PyData.eqvAll, a, b]
end
theorem hEq_t {d e : D} (h1 : SeqAt.shaped d = true) (h2 : SeqAt.shaped e = true) (h : PyData.eqv d e = true) : hEq d e = some (.val (.bool true)) := by unfold hEq; rw [h1, h2, h]; rfl
theorem hEq_f {d e : D} (h1 : SeqAt.shaped d = true) (h2 : SeqAt.shaped e = true) (h : PyData.eqv d e = false) : hEq d e = some (.val (.bool false)) := by unfold hEq; rw [h1, h2, h]; rfl
theorem hNe_t {d e : D} (h1 : SeqAt.shaped d = true) (h2 : SeqAt.shaped e = true) (h : PyData.eqv d e = true) : hNe d e = some (.val (.bool false)) := by unfold hNe; rw [h1, h2, h]; rfl
theorem hNe_f {d e : D} (h1 : SeqAt.shaped d = true) (h2 : SeqAt.shaped e = true) (h : PyData.eqv d e = false) : hNe d e = some (.val (.bool true)) := by unfold hNe; rw [h1, h2, h]; rfl
mutual
theorem noB_lay : ∀ d : D, noB d = true → d.canLay0 = true
  | .none, _ => by simp [PyData.canLay0]
  | .int i, _ => by simp [PyData.canLay0]
  | .str i, h => by simpa [PyData.canLay0, noB] using h
  | .bool i, _ => by simp [PyData.canLay0]
  | .dict _, h => by simp [noB] at h
  | .list ds, h => by simp only [PyData.canLay0]; exact noBs_lay ds (by simpa [noB] using h)
  | .tuple ds, h => by simp only [PyData.canLay0]; exact noBs_lay ds (by simpa [noB] using h)
theorem noBs_lay : ∀ ds : List D, noBs ds = true → PyData.canLayAll0 ds = true
  | [], _ => by simp [PyData.canLayAll0]
  | d :: ds, h => by
    simp only [noBs, Bool.and_eq_true] at h
    simp only [PyData.canLayAll0, noB_lay d h.1, noBs_lay ds h.2, Bool.and_self]
end
mutual
/-- at most k deep -/
def dpth : Nat → D → Bool
  | _, .none => true
  | _, .int _ => true
  | _, .str _ => true
  | _, .bool _ => true
  | 0, .list _ => false
  | 0, .tuple _ => false
  | k + 1, .list ds => dpths k ds
  | k + 1, .tuple ds => dpths k ds
  | _, .dict _ => false
def dpths : Nat → List D → Bool
  | _, [] => true
  | k, d :: ds => dpth k d && dpths k ds
end
mutual
theorem dpth_le : ∀ {k : Nat} {d : D}, dpth k d = true → d.depth ≤ k
  | _, .none, _ => by simp [PyData.depth]
  | _, .int _, _ => by simp [PyData.depth]
  | _, .str _, _ => by simp [PyData.depth]
  | _, .bool _, _ => by simp [PyData.depth]
  | 0, .list _, h => by simp [dpth] at h
  | 0, .tuple _, h => by simp [dpth] at h
  | k + 1, .list ds, h => by
    have := dpths_le (k := k) (ds := ds) (by simpa [dpth] using h)
    simp only [PyData.depth]; omega
  | k + 1, .tuple ds, h => by
    have := dpths_le (k := k) (ds := ds) (by simpa [dpth] using h)
    simp only [PyData.depth]; omega
  | 0, .dict _, h => by simp [dpth] at h
  | _ + 1, .dict _, h => by simp [dpth] at h
theorem dpths_le : ∀ {k : Nat} {ds : List D}, dpths k ds = true → PyData.depthAll ds ≤ k
  | _, [], _ => by simp [PyData.depthAll]
  | k, d :: ds, h => by
    simp only [dpths, Bool.and_eq_true] at h
    have a := dpth_le h.1
    have b := dpths_le h.2
    simp only [PyData.depthAll]
    omega
end
theorem shaped_by {d : D} (k : Nat) (h : noB d = true) (hd : dpth k d = true) (hk : k ≤ 64) : SeqAt.shaped d = true := by
  unfold SeqAt.shaped
  rw [noB_lay d h, decide_eq_true (Nat.le_trans (dpth_le hd) hk)]
  rfl
theorem noBs_of {ds : List D} (h : ∀ d ∈ ds, noB d = true) : noBs ds = true := by
  induction ds with
  | nil => simp [noBs]
  | cons d ds ih => simp only [noBs, h d List.mem_cons_self, ih fun e he => h e (List.mem_cons_of_mem _ he), Bool.and_self]
theorem dpths_of {k : Nat} {ds : List D} (h : ∀ d ∈ ds, dpth k d = true) : dpths k ds = true := by
  induction ds with
  | nil => simp [dpths]
  | cons d ds ih => simp only [dpths, h d List.mem_cons_self, ih fun e he => h e (List.mem_cons_of_mem _ he), Bool.and_self]
theorem eqv_same {d : D} (h : noB d = true) : PyData.eqv d d = true := (eqv_iff h h).mpr rfl
theorem eqv_ne {d e : D} (h : noB d = true) (h2 : noB e = true) (n : d ≠ e) : PyData.eqv d e = false := by
  cases q : PyData.eqv d e with
  | false => rfl
  | true => exact absurd ((eqv_iff h h2).mp q) n
end Fx

namespace Fx
open PySem PySem.Spec PyProof.Rows L2
/-! ### own errors: raise -/
/-- an own class over ValueError -/
structure Ec (K : PySem.W.Frag) (mg : Str → Option Value) (x : Str) where
  C : Addr
  m : mg x = some (.ref C)
  q : PySem.W.excIn K C [.type "ValueError", .type "Exception", .type "BaseException", .type "object"] "ValueError.__new__" = true
  k : PySem.W.keepIn K (.ref C) = true
  b : PySem.W.subIn K (.ref C) (.type "BaseException") = some true
  t : PySem.W.typeIn K (.ref C) = some (.type "type")
section
variable {X : Cx} {J : Inf} {W : WX}
def sRaise (x : Cls) : SM := fun fs => some (.ex x, fs)
theorem fs_raise {x m : Str} {j : Nat} {p p2 pos pos' : Pos} (c : Ec X.K X.mg x) (hc : X.calm = true) (tk : Takes X W) (hg : Gl X x) (hdb : (x == ("__debug__" : Str)) = false := by decide) :
    FS X J W (.Raise (some (.Call (.Name x p) [.Constant (.str m) j p2] [] pos)) none pos') (sRaise x) := by
  refine ⟨_, ps_raise hc tk (pmk_own PySem.F.excBase_ValueError c.q c.m c.k (raises_own c.b c.t) hg hdb), fun σ H S fs D r fs' R e p => ?_⟩
  cases e
  exact p σ H S R (Same.refl _) c.C c.m
end

/-! ### a def called within an except suite, its argument the caught error -/
structure FnP (P : Program) (w : World) (K : PySem.W.Frag) (mg : Str → Option Value) (base : Heap) (CX : CXT) (k : Nat) (f : Addr) (fd : FuncData) (ps : List Str) (p : Addr × Obj) (sp : Sp) : Prop where
  len : ∀ vs H Q E, sp vs H Q E → vs.length = ps.length
  run : ∀ (A : Around) (outer : List Env) (s : Shared) (H : Hp) (args : Args) (us : List Value) (vs : List V) (Q : VK) (E : XK), L2H.RoomH k A → L2H.PinOk outer H s p → Env0 P w K mg base A outer s H → BindsTo s fd args (ps.zip us) → Vals vs us → sp vs H Q E →
    codeAny (model P w) A (.call (.ref f) args) (CR CX outer P w H s Q E) s
theorem fn_ofP {CX : CXT} {P : Program} {w : World} {K : PySem.W.Frag} {mg : Str → Option Value} {base : Heap} {k : Nat} {f : Addr} {name qual : Str} {params : Arguments} {body : List Stmt} {scope : Scope} {dV kV doc pm cdv ct oc : Value} {an od : Option Addr}
    {osl : Array (Option Value)} {N ps : List Str} {p : Addr × Obj} {sp : Sp} (lk : K.lookup f = some ⟨oc, od, .func (PySem.W.fnOf name qual params body scope dV kV doc pm an cdv ct), osl⟩) (hcd : PySem.W.codeIn K cdv qual = true) (S : FnScope N ps scope)
    (len : ∀ vs H Q E, sp vs H Q E → vs.length = ps.length)
    (hbody : ∀ (A : Around) (outer : List Env) (s : Shared) (H : Hp) (vs : List V) (Q : VK) (E : XK), L2H.RoomH k (A.deeper (envOfC qual scope s.heap.objs.size f cdv)) → sp vs H Q E →
      ∃ t, PSs (L2H.cxH CX P w K mg base N qual scope f cdv A outer s H E p) body t ∧ t { nx := fun _ H' => Q .non H', rt := Q } (L2.start N vs) H) :
    FnP P w K mg base CX (k + 1) f (PySem.W.fnOf name qual params body scope dV kV doc pm an cdv ct) ps p sp := by
  refine ⟨len, fun A outer s H args us vs Q E hr hpin e0 hb r hsp => ?_⟩
  have hl := len _ _ _ _ hsp
  have KX : K.In s.heap := e0.mod.kin.keeps fun b o e => (e0.bs b o e).1
  have lim : s.heap.NoLimit := e0.mod.nolimit.keeps fun b o e => (e0.bs b o e).1
  have hkind : ∀ y ∈ ps.zip us, scope.names.lookup y.1 = some .local ∨ (scope.names.lookup y.1 = some .cell ∧ ((cellsFrom (s.heap.objs.size + 1) scope.names []).lookup y.1).isSome = true) := fun ⟨n, v⟩ hy => by
    rcases S.par n (List.of_mem_zip hy).1 with q | q
    · exact .inl q
    · exact .inr ⟨q, PySem.W.cellsFrom_some _ _ _ (.inl q)⟩
  refine codeAny_call_function hr.depth (KX _ _ lk) rfl S.co S.gen rfl (PySem.W.codeRec_of KX hcd) (hb _ _ _ _ ?_)
  refine wpAny_newFunctionEnv_cells S.kind hkind fun env he s1 x => ?_
  subst he
  refine ⟨lim.keeps x.toInCall.keep, codeAny_func ?_⟩
  obtain ⟨t, ht, hq⟩ := hbody A outer s H vs Q E (hr.deeper _) hsp
  have I : Inv (L2H.cxH CX P w K mg base N qual scope f cdv A outer s H E p) [] (L2.start N vs) H s1 := L2H.inv_startH S hpin e0 hl r x
  refine wpAny_mono (ht.run [] s1 (L2.start N vs) H _ I hq) (fun fl s' hs => ?_) fun e s' hs => hs
  have fin : ∀ {σ' : L2.St} {H' : Hp} {v : V} {u : Value}, Inv (L2H.cxH CX P w K mg base N qual scope f cdv A outer s H E p) [] σ' H' s' → RelV v u → Q v H' → CE outer P w H s Q u s' :=
    fun {σ' H' v u} J rv q => ⟨v, H', J.os, J.bare, J.base, J.hok, rv, q⟩
  cases fl with
  | ret u =>
    obtain ⟨v, σ', H', J, rv, q⟩ := hs
    exact fin J rv q
  | next =>
    obtain ⟨σ', H', J, q⟩ := hs
    exact fin (v := V.non) (u := Value.none) J rfl q
  | brk =>
    obtain ⟨_, _, _, q⟩ := hs
    exact False.elim q
  | cont =>
    obtain ⟨_, _, _, q⟩ := hs
    exact False.elim q
section
variable {X : Cx} {CX : CXT} {k : Nat} {f : Addr} {fd : FuncData} {ps : List Str} {p : Addr × Obj} {sp : Sp} {E : L2.St → XK} {x : Str} {q pos : Pos} {e : Expr} {es : List Expr} {t : TA}
theorem run_fnP {pins : List (Addr × Obj)} {σ : L2.St} {H : Hp} {s : Shared} {Q : VK} {us : List Value} {vs : List V} (F : FnP X.prog X.w X.K X.mg X.base CX k f fd ps p sp) (hr : L2H.RoomH k X.A) (hp : p ∈ X.pn) (hb : Binds X.K fd ps []) (hx : PassesAt CX X σ (E σ))
    (I : Inv X pins σ H s) (r : Vals vs us) (h : sp vs H Q (E σ)) : wpAny (model X.prog X.w) X.A (call (.ref f) us) (EP X pins σ Q) X.xe s := by
  have hl : us.length = ps.length := by rw [← r.length]; exact F.len _ _ _ _ h
  have b := hb s us I.kIn (by rw [List.append_nil]; exact hl)
  rw [List.append_nil] at b
  have P1 := I.pin p (List.mem_append_left _ hp)
  have hpin : L2H.PinOk X.stack H s p := ⟨P1.1, P1.2.1, fun hm => (List.mem_cons.mp (I.stkSub p.1 hm)).elim P1.2.2.1 P1.2.2.2.1, P1.2.2.2.2⟩
  refine wpAny_call (codeAny_mono (F.run X.A X.stack s H ⟨us, []⟩ us vs Q (E σ) hr hpin I.env0 b r h) fun r s' hq => ?_)
  cases r with
  | error e => exact hx pins H s e s' I hq
  | ok fl =>
    cases fl with
    | ret u => exact I.after hq
    | next => exact False.elim hq
    | brk => exact False.elim hq
    | cont => exact False.elim hq
theorem pe_callP (F : FnP X.prog X.w X.K X.mg X.base CX k f fd ps p sp) (hr : L2H.RoomH k X.A) (hp : p ∈ X.pn) (hg : Gl X x) (hm : X.mg x = some (.ref f)) (hk : PySem.W.keepIn X.K (.ref f) = true) (hb : Binds X.K fd ps []) (hx : ∀ σ, PassesAt CX X σ (E σ))
    (ha : PA X (e :: es) t) (hdb : (x == ("__debug__" : Str)) = false := by decide) (he : starEach (e :: es) X.env = (false, eval e X.env) :: starEach es X.env := by rfl) (hpl : (backTo pos (starEach es X.env)).any (·.1) = false := by rfl) :
    PE X (.Call (.Name x q) (e :: es) [] pos) (tCallS sp E t) := by
  refine ⟨fun pins s σ H Q I h => ?_⟩
  refine wpAny_Call_Name_kw (ld_glob I hg hm ?_ hdb)
  refine PySem.W.callWith_K (h₀ := X.base) I.ok.mod.kin hk (thn (ha.run pos pins s σ H _ I h) fun us s1 ⟨vs, H1, I1, r, q⟩ => ⟨I1.kIn, ?_⟩) he hpl
  exact run_fnP F hr hp hb (hx σ) I1 r q
/-- isinstance of the pinned error -/
theorem call_isP {D : Addr} (C : ExcC X.K D) (hp : p ∈ X.pn) (hz : Zc (.ref D) none p.2) (hf : ∃ vs, p.2.data = .fields vs) : CallR X (.builtin "isinstance") (rIsE X.K D p.1) := by
  intro pins s σ H xs us Q I r h
  obtain ⟨c, cv, b, rfl, hcv, e, q⟩ := h
  cases r with
  | cons rx rr =>
    cases rr with
    | cons rt rr =>
      cases rr
      cases rx
      have ec := hcv _ rt
      subst ec
      obtain ⟨hget, _⟩ := I.pin p (List.mem_append.mpr (.inl hp))
      obtain ⟨vs, hv⟩ := hf
      have J : PySem.W.InstAt s.heap p.1 p.2 D none := by
        obtain ⟨pa, oc, od, oda, osl⟩ := p
        obtain ⟨h1, h2⟩ := hz
        dsimp only at h1 h2 hv
        subst h1 h2 hv
        exact ⟨hget, rfl, rfl, trivial⟩
      exact PySem.W.kia_one (PySem.W.handS_kitx_exc C.hg C.hk C.hs C.hd C.ha C.hn C.ht C.hm) I.kIn J e (fun z => nomatch z) fun tk => ⟨.bl b, H, I.kept (t' := tk) fun _ _ z => z, rfl, q⟩
end
end Fx
namespace Fx
open PySem PySem.Spec PyProof.Rows L2
/-- the error's kind, told by a word -/
def spK (a : Addr) (w : Str) : Sp := fun vs H Q _ => vs = [.ref a] ∧ ∀ H', Same H H' → Q (.str w) H'
theorem same_lay {H : Hp} {p : Addr} {o : HO} (h : H p = none) : Same H (upd H p o) := fun a u e => by rw [upd_ne (ne_of_none e h)]; exact e
theorem dpAll_bl {K : PySem.W.Frag} {H : Hp} : ∀ bs : List Bool, DpAll K H (bs.map V.bl) (bs.map PyData.bool)
  | [] => .nil
  | b :: bs => .cons (.bl b) (dpAll_bl bs)
theorem lay_bls : ∀ bs : List Bool, PyData.canLayAll0 (bs.map PyData.bool) = true
  | [] => by simp [PyData.canLayAll0]
  | b :: bs => by simp [PyData.canLayAll0, PyData.canLay0, lay_bls bs]
theorem depth_bls : ∀ bs : List Bool, PyData.depthAll (bs.map PyData.bool) = 0
  | [] => by simp [PyData.depthAll]
  | b :: bs => by simp [PyData.depthAll, PyData.depth, depth_bls bs]
theorem sh_bls (bs : List Bool) : SeqAt.shaped (.list (bs.map PyData.bool)) = true := by
  unfold SeqAt.shaped
  rw [show PyData.canLay0 (.list (bs.map PyData.bool)) = true by simp only [PyData.canLay0]; exact lay_bls bs, show PyData.depth (.list (bs.map PyData.bool)) = 1 by simp only [PyData.depth, depth_bls]]
  rfl
theorem sh_bl (b : Bool) : SeqAt.shaped (.bool b) = true := by simp [SeqAt.shaped, PyData.canLay0, PyData.depth]
theorem kind1_eval {K : PySem.W.Frag} {a : Addr} {ta1 ta2 ta3 : TA} {bs1 bs2 : List Bool} {ws : List Str} {j : Nat} {w : Str} {D : Ends} {H : Hp}
    (h1 : ∀ (σ : L2.St) (H : Hp) (Q : List V → Hp → Prop), σ[0]? = some (some (V.ref a)) → Q (bs1.map V.bl) H → ta1 σ H Q) (h2 : ∀ (σ : L2.St) (H : Hp) (Q : List V → Hp → Prop), σ[0]? = some (some (V.ref a)) → Q (bs2.map V.bl) H → ta2 σ H Q)
    (h3 : ∀ (σ : L2.St) (H : Hp) (Q : List V → Hp → Prop), Q (ws.map V.str) H → ta3 σ H Q) (hz : bs1.length + bs2.length ≤ 1000) (hzw : ws.length ≤ 1000) (hj : (bs1 ++ bs2)[j]? = some true) (hlt : ∀ m, m < j → (bs1 ++ bs2)[m]? = some false) (hw : ws[j]? = some w)
    (q : ∀ H', Same H H' → D.rt (.str w) H') :
    (tSeq (tAsg (tLst ta1) (gName 1)) (tSeq (tAsg (tOp rCat (tVar 1) (tLst ta2)) (gName 1)) (tRet (tOp (rIxL K) (tLst ta3) (tBM K "list" (rIndexD K) (tVar 1) (tCons (tC (.bl true)) tNil)))))) D [some (.ref a), none] H := by
  have z1 : bs1.length ≤ sizeLine := szl _ (by omega)
  have z2 : bs2.length ≤ sizeLine := szl _ (by omega)
  have z3 : ws.length ≤ sizeLine := szl _ (by omega)
  refine h1 _ _ _ rfl ⟨by rw [List.length_map]; exact z1, fun l1 n1 => ?_⟩
  refine ⟨.ref l1, rfl, ?_⟩
  refine h2 _ _ _ rfl ⟨by rw [List.length_map]; exact z2, fun l2 n2 => ?_⟩
  have k12 : l1 ≠ l2 := ne_of_none upd_same n2
  refine ⟨l1, l2, bs1.map V.bl, bs2.map V.bl, rfl, rfl, by rw [upd_ne k12, upd_same], upd_same, by rw [List.length_map, List.length_map]; exact szl _ (by omega), fun l3 n3 => ?_⟩
  refine h3 _ _ _ ⟨by rw [List.length_map]; exact z3, fun l4 n4 => ?_⟩
  have k34 : l3 ≠ l4 := ne_of_none upd_same n4
  have e3 : (upd (upd (upd (upd H l1 (.lst (bs1.map V.bl))) l2 (.lst (bs2.map V.bl))) l3 (.lst (bs1.map V.bl ++ bs2.map V.bl))) l4 (.lst (ws.map V.str))) l3 = some (.lst ((bs1 ++ bs2).map V.bl)) := by
    rw [upd_ne k34, upd_same, List.map_append]
  refine ⟨.ref l3, rfl, .inl ⟨rfl, _, SqL.of e3⟩, ?_⟩
  have hl : j < ws.length := (List.getElem?_eq_some_iff.mp hw).1
  refine ⟨l3, .bl true, .bool true, (bs1 ++ bs2).map PyData.bool, j, .bool true, rfl, rfl, .lst (SqL.of e3) (dpAll_bl _), .bl true, sh_bls _, sh_bl _, by rw [List.getElem?_map, hj]; rfl, by simp [PyData.eqv], fun m z' hm hz' => ?_, ?_⟩
  · rw [List.getElem?_map, hlt m hm] at hz'
    cases hz'
    simp [PyData.eqv]
  · refine ⟨l4, ws.map V.str, (j : Nat), .str w, rfl, rfl, SqL.of upd_same, ?_, ?_⟩
    · rw [atI_natE, List.getElem?_map, hw]
      rfl
    · exact q _ (((same_lay n1).trans (same_lay n2)).trans ((same_lay n3).trans (same_lay n4)))
/-! try: e, except C as n: word = kind(n) -/
section
variable {X : Cx} {J : Inf} {W : WX}
/-- the classes told: kd's word for each -/
def sTryK (ie iw : Nat) (kd : Cls → Option Str) (g : SM) : SM := fun fs => match g fs with
  | some (.ex c, fs1) => match fs1[ie]? with
    | some .no => match kd c with
      | some w => some (.nx, fs1.set iw (.dat (.str w)))
      | none => none
    | _ => none
  | r => r
/-- .. the word is handed back -/
def sTryR (ie : Nat) (kd : Cls → Option Str) (g : SM) : SM := fun fs => match g fs with
  | some (.ex c, fs1) => match fs1[ie]? with
    | some .no => match kd c with
      | some w => some (.ret false (.str w), fs1)
      | none => none
    | _ => none
  | r => r
theorem Rel.gone {K : PySem.W.Frag} {σ : L2.St} {H S : Hp} {fs : Fs} (R : Rel K J σ H S fs) {i : Nat} (h : fs[i]? = some .no) (o : Option V) : Rel K J (σ.set i o) H S fs where
  sub := R.sub
  len := by rw [List.length_set]; exact R.len
  dat := fun j d q => by
    by_cases hj : i = j
    · subst hj; rw [h] at q; cases q
    · rw [List.getElem?_set_ne hj]; exact R.dat j d q
  own := fun j n d q => by
    by_cases hj : i = j
    · subst hj; rw [h] at q; cases q
    · rw [List.getElem?_set_ne hj]; exact R.own j n d q
  sep := fun j k n m d e p q1 q2 z1 z2 => by
    by_cases h1 : i = j
    · subst h1; rw [h] at q1; cases q1
    · by_cases h2 : i = k
      · subst h2; rw [h] at q2; cases q2
      · rw [List.getElem?_set_ne h1] at z1
        rw [List.getElem?_set_ne h2] at z2
        exact R.sep j k n m d e p q1 q2 z1 z2
  keep0 := R.keep0
  grow0 := R.grow0
  new0 := R.new0
  live0 := R.live0
  bwl := R.bwl
theorem Rel.same {K : PySem.W.Frag} {σ : L2.St} {H H' S : Hp} {fs : Fs} (R : Rel K J σ H S fs) (s : Same H H') : Rel K J σ H' S fs :=
  R.grown ⟨fun a o e _ => s a o e, Same.refl _, fun _ z => .inl z, fun a z => by
    cases q : H a with
    | none => exact absurd q z
    | some o => rw [s a o q]; simp⟩ (R.sub.trans s)
/-- the suite's wish -/
def tsK (mg : Str → Option Value) (kd : Cls → Option Str) (ie iw : Nat) (a : Addr) (cls : Value) (d : Option Addr) : TS := fun D σ H => ∃ (c : Cls) (w : Str) (C : Addr), cls = .ref C ∧ d = none ∧ kd c = some w ∧ mg c = some (.ref C) ∧ σ[ie]? = some (some (.ref a)) ∧ ∀ H', Same H H' → D.nx (σ.set iw (some (.str w))) H'
def tsR (mg : Str → Option Value) (kd : Cls → Option Str) (ie : Nat) (a : Addr) (cls : Value) (d : Option Addr) : TS := fun D σ H => ∃ (c : Cls) (w : Str) (C : Addr), cls = .ref C ∧ d = none ∧ kd c = some w ∧ mg c = some (.ref C) ∧ σ[ie]? = some (some (.ref a)) ∧ ∀ H', Same H H' → D.rt (.str w) H'
variable {x n : Str} {CS : Addr} {ie iw : Nat} {body suite : List Stmt} {b₀ : Stmt} {np pos pos' : Pos} {g : SM} {kd : Cls → Option Str}
theorem fs_tryK (hs : X.stack = X.env :: X.outer) (hf : X.env.frame = some X.env.locals) (hN : X.N.Nodup) (hne : iw ≠ ie) (hc : Names X x (.ref CS)) (tk : Takes X W)
    (he : ∀ c w C, kd c = some w → X.mg c = some (.ref C) → PySem.W.exmOne X.K (.ref C) (.ref CS) = some true)
    (hb : ∀ (W' : WX) (pn : List (Addr × Obj)) (xe : Value → Shared → Prop), Takes (X.tr pn xe) W' → PassesOwn (model X.prog X.w) X.A X.env xe → FSs (X.tr pn xe) J W' body g)
    (hsu : ∀ (a : Addr) (oe : Obj) (pn : List (Addr × Obj)) (c : Cls) (w : Str) (C : Addr), kd c = some w → X.mg c = some (.ref C) → Zc (.ref C) none oe → (∃ vs, oe.data = .fields vs) →
      ∃ t, PSs (X.suite a ((a, oe) :: pn)) (b₀ :: suite) t ∧ ∀ (D : Ends) (σ : L2.St) (H : Hp), σ[ie]? = some (some (.ref a)) → (∀ H', Same H H' → D.nx (σ.set iw (some (.str w))) H') → t D σ H)
    (hi : X.N[ie]? = some n := by rfl) (hln : X.env.kindOf n = some .local := by rfl) :
    FS X J W (.Try body [.ExceptHandler (some (.Name x np)) (some n) (b₀ :: suite) pos'] [] [] pos) (sTryK ie iw kd g) := by
  refine ⟨_, ps_try_as (tb := fun W' D σ H => ∀ pn xe (h1 : Takes (X.tr pn xe) W') (h2 : PassesOwn (model X.prog X.w) X.A X.env xe), (Classical.choose (hb W' pn xe h1 h2)) D σ H) (ts := tsK X.mg kd ie iw) (Wout := W) hs hf hN hi hln hc tk
    (fun W' pn xe h1 h2 => ⟨fun pins s σ H D I h => (Classical.choose_spec (hb W' pn xe h1 h2)).1.run pins s σ H D I (h pn xe h1 h2)⟩) (fun a oe cls d pn hz hfl => ⟨fun pins s σ H D I h => ?_⟩), fun σ H S fs D r fs' R e p pn xe h1 h2 => ?_⟩
  · obtain ⟨c, w, C, rfl, rfl, k1, k2, k3, k4⟩ := h
    obtain ⟨t, pt, et⟩ := hsu a oe pn c w C k1 k2 hz hfl
    exact pt.run pins s σ H D I (et D σ H k3 k4)
  · have sim := (Classical.choose_spec (hb _ pn xe h1 h2)).2
    unfold sTryK at e
    split at e
    · rename_i c fs1 q
      split at e
      · rename_i qn
        split at e
        · rename_i w qw
          cases e
          refine sim σ H S fs D _ fs1 R q fun σ' H' S' R' gr C hC => ⟨true, he c w C qw hC, fun _ a ha => ?_, fun z => nomatch z⟩
          have hl : ie < σ'.length := by rw [R'.len]; exact (List.getElem?_eq_some_iff.mp qn).1
          refine ⟨c, w, C, rfl, rfl, qw, hC, List.getElem?_set_self hl, fun H2 s2 => ?_⟩
          have R2 := ((R'.gone qn (some (V.ref a))).same s2).putD iw (Rp.str w)
          have qn2 : (fs1.set iw (.dat (.str w)))[ie]? = some .no := by rw [List.getElem?_set_ne hne]; exact qn
          exact p _ H2 S' (R2.gone qn2 none) gr
        · cases e
      · cases e
    · rename_i hne'
      refine sim σ H S fs D _ fs' R e fun σ' H' S' R' gr => ?_
      have z := p σ' H' S' R' gr
      cases r with
      | nx => exact z
      | bk => exact z
      | ct => exact z
      | ret fr d => exact z
      | ex c => exact absurd e (hne' c fs')
theorem fs_tryR (hs : X.stack = X.env :: X.outer) (hf : X.env.frame = some X.env.locals) (hN : X.N.Nodup) (hc : Names X x (.ref CS)) (tk : Takes X W)
    (he : ∀ c w C, kd c = some w → X.mg c = some (.ref C) → PySem.W.exmOne X.K (.ref C) (.ref CS) = some true)
    (hb : ∀ (W' : WX) (pn : List (Addr × Obj)) (xe : Value → Shared → Prop), Takes (X.tr pn xe) W' → PassesOwn (model X.prog X.w) X.A X.env xe → FSs (X.tr pn xe) J W' body g)
    (hsu : ∀ (a : Addr) (oe : Obj) (pn : List (Addr × Obj)) (c : Cls) (w : Str) (C : Addr), kd c = some w → X.mg c = some (.ref C) → Zc (.ref C) none oe → (∃ vs, oe.data = .fields vs) →
      ∃ t, PSs (X.suite a ((a, oe) :: pn)) (b₀ :: suite) t ∧ ∀ (D : Ends) (σ : L2.St) (H : Hp), σ[ie]? = some (some (.ref a)) → (∀ H', Same H H' → D.rt (.str w) H') → t D σ H)
    (hi : X.N[ie]? = some n := by rfl) (hln : X.env.kindOf n = some .local := by rfl) :
    FS X J W (.Try body [.ExceptHandler (some (.Name x np)) (some n) (b₀ :: suite) pos'] [] [] pos) (sTryR ie kd g) := by
  refine ⟨_, ps_try_as (tb := fun W' D σ H => ∀ pn xe (h1 : Takes (X.tr pn xe) W') (h2 : PassesOwn (model X.prog X.w) X.A X.env xe), (Classical.choose (hb W' pn xe h1 h2)) D σ H) (ts := tsR X.mg kd ie) (Wout := W) hs hf hN hi hln hc tk
    (fun W' pn xe h1 h2 => ⟨fun pins s σ H D I h => (Classical.choose_spec (hb W' pn xe h1 h2)).1.run pins s σ H D I (h pn xe h1 h2)⟩) (fun a oe cls d pn hz hfl => ⟨fun pins s σ H D I h => ?_⟩), fun σ H S fs D r fs' R e p pn xe h1 h2 => ?_⟩
  · obtain ⟨c, w, C, rfl, rfl, k1, k2, k3, k4⟩ := h
    obtain ⟨t, pt, et⟩ := hsu a oe pn c w C k1 k2 hz hfl
    exact pt.run pins s σ H D I (et D σ H k3 k4)
  · have sim := (Classical.choose_spec (hb _ pn xe h1 h2)).2
    unfold sTryR at e
    split at e
    · rename_i c fs1 q
      split at e
      · rename_i qn
        split at e
        · rename_i w qw
          cases e
          refine sim σ H S fs D _ fs' R q fun σ' H' S' R' gr C hC => ⟨true, he c w C qw hC, fun _ a ha => ?_, fun z => nomatch z⟩
          have hl : ie < σ'.length := by rw [R'.len]; exact (List.getElem?_eq_some_iff.mp qn).1
          refine ⟨c, w, C, rfl, rfl, qw, hC, List.getElem?_set_self hl, fun H2 s2 => ?_⟩
          have R2 := (R'.gone qn none).same s2
          exact p _ H2 S' R2 gr (.str w) (Rp.str w)
        · cases e
      · cases e
    · rename_i hne'
      refine sim σ H S fs D _ fs' R e fun σ' H' S' R' gr => ?_
      have z := p σ' H' S' R' gr
      cases r with
      | nx => exact z
      | bk => exact z
      | ct => exact z
      | ret fr d => exact z
      | ex c => exact absurd e (hne' c fs')
/-- the suite in short -/
theorem suiteK {p : Addr × Obj} {w : Str} {D : Ends} {σ : L2.St} {H : Hp} {ie iw : Nat} {E : L2.St → XK} (h : σ[ie]? = some (some (.ref p.1))) (q : ∀ H', Same H H' → D.nx (σ.set iw (some (.str w))) H') :
    (tAsg (tCallS (spK p.1 w) E (tCons (tVar ie) tNil)) (gName iw)) D σ H := ⟨_, h, rfl, fun H' s => q H' s⟩
theorem suiteR {p : Addr × Obj} {w : Str} {D : Ends} {σ : L2.St} {H : Hp} {ie : Nat} {E : L2.St → XK} (h : σ[ie]? = some (some (.ref p.1))) (q : ∀ H', Same H H' → D.rt (.str w) H') :
    (tRet (tCallS (spK p.1 w) E (tCons (tVar ie) tNil))) D σ H := ⟨_, h, rfl, fun H' s => q H' s⟩
/-- nothing leaves the call -/
theorem passE {X : Cx} (σ : L2.St) : PassesAt (L2.CX X.prog X.w) X σ (fun _ _ _ => False) := fun _ _ _ _ _ _ c => by
  obtain ⟨_, _, _, _, _, _, _, _, _, _, _, _, z⟩ := c
  exact z.elim
end
theorem roomHm {k : Nat} {A : Around} (r : Room k A) (h : Option Value) : L2H.RoomH k (A.mark h) := ⟨r.dp, r.un⟩
/-- a class's name -/
structure Cr (K : PySem.W.Frag) (mg : Str → Option Value) (x : Str) where
  C : Addr
  m : mg x = some (.ref C)
/-- a module's constant -/
def Gc (K : PySem.W.Frag) (mg : Str → Option Value) (x : Str) (d : D) : Prop := ∃ v u, mg x = some u ∧ RelV v u ∧ ∀ S, Rp K S v d
theorem fe_gc {X : Cx} {J : Inf} {W : WX} {x : Str} {d : D} {pos : Pos} (h : Gc X.K X.mg x d) (hg : Gl X x) (hd : (x == ("__debug__" : Str)) = false := by decide) : FE X J W (.Name x pos) (fVal d) := by
  obtain ⟨v, u, h1, h2, h3⟩ := h
  exact fe_glob hg h1 h2 h3 hd
theorem gc_tup {K : PySem.W.Frag} {mg : Str → Option Value} {x : Str} {a : Addr} {its : Array Value} {n : Nat} {sl : Array (Option Value)} {vs : List V} {ds : List D} (hm : mg x = some (.ref a)) (hk : K.lookup a = some ⟨.type "tuple", none, .seq its n, sl⟩) (hv : Vals vs its.toList) (hz : its.size ≤ sizeLine) (hr : ∀ S, Rps K S vs ds) : Gc K mg x (.tuple ds) :=
  ⟨.ref a, .ref a, hm, rfl, fun S => .tup (.inr ⟨_, its, n, hk, rfl, rfl, hz, hv⟩) (.inr ⟨_, hk, rfl⟩) (hr S)⟩
end Fx

namespace Fx
open PySem PySem.Spec PyProof.Rows L2
theorem gc_int {K : PySem.W.Frag} {mg : Str → Option Value} {x : Str} {i : Int} {t : Tok} (hm : mg x = some (.int i t)) : Gc K mg x (.int i) := ⟨.int i, .int i t, hm, ⟨t, rfl⟩, fun _ => .int i⟩
section
variable {X : Cx} {J : Inf} {W : WX} {tg e : Expr} {f g : M Rv} {p pos : Pos}
/-! reversed(..) of a list or a tuple -/
theorem it_rev {K : PySem.W.Frag} {S : Hp} {a : Addr} {xs : List V} {ds : List D} (h : SqL K S a xs) (r : Rps K S xs ds) : ItOk true K S (Itv K a xs.length) ds.reverse where
  go := fun i H S' hi s1 s2 => by
    rw [List.length_reverse] at hi
    have hl := r.length
    exact ⟨by omega, xs, xs[xs.length - 1 - i]'(by omega), L2.Same.seq (s1.trans s2) h, by simp⟩
  yld := fun i H S' x H' hi s1 s2 y => by
    rw [List.length_reverse] at hi
    have hl := r.length
    obtain ⟨e, y⟩ := y
    subst e
    obtain ⟨d, h1, h2⟩ := r.get' (y xs (L2.Same.seq (s1.trans s2) h))
    refine ⟨S', d, ?_, Stp.refl, s2, h2.mono s1⟩
    rw [List.getElem?_reverse (by omega), ← hl]
    exact h1
  stop := fun H S' s1 s2 => by
    rw [List.length_reverse, ← r.length]
    exact Nat.le_refl _
theorem it_revT {K : PySem.W.Frag} {S : Hp} {a : Addr} {xs : List V} {ds : List D} (h : SqT K S a xs) (r : Rps K S xs ds) : ItOk true K S (RT.ItvT K a xs.length) ds.reverse where
  go := fun i H S' hi s1 s2 => by
    rw [List.length_reverse] at hi
    have hl := r.length
    exact ⟨by omega, xs, xs[xs.length - 1 - i]'(by omega), Same.seqT (s1.trans s2) h, by simp⟩
  yld := fun i H S' x H' hi s1 s2 y => by
    rw [List.length_reverse] at hi
    have hl := r.length
    obtain ⟨e, y⟩ := y
    subst e
    obtain ⟨d, h1, h2⟩ := r.get' (y xs (Same.seqT (s1.trans s2) h))
    refine ⟨S', d, ?_, Stp.refl, s2, h2.mono s1⟩
    rw [List.getElem?_reverse (by omega), ← hl]
    exact h1
  stop := fun H S' s1 s2 => by
    rw [List.length_reverse, ← r.length]
    exact Nat.le_refl _
def asR : D → M (List D) := fun d fs => match d with
  | .list ds => some (.inr ds.reverse, fs)
  | .tuple ds => some (.inr ds.reverse, fs)
  | _ => none
def fiRev (f : M D) : M (List D) := bnd f asR
theorem fi_rev (hg : Gl X "reversed") (hm : X.mg "reversed" = none) (he : FE X J W e f) (hs : starEach [e] X.env = (false, eval e X.env) :: starEach [] X.env := by rfl) : FI X J W true tg (.Call (.Name "reversed" p) [e] [] pos) (fiRev (fD f)) := by
  obtain ⟨t, pe, s⟩ := he.d
  refine ⟨_, RT.pi_revA hg hm pe hs, fun σ H S fs Q res fs' R e p => ?_⟩
  refine s.bind R e p fun d fs1 v H1 S1 R1 r1 e1 p1 _ _ => ?_
  unfold asR at e1
  split at e1
  · cases e1
    cases r1 with
    | lst q r => exact ⟨_, _, rfl, .inl ⟨SqL.of (R1.sub _ _ q), p1.here R1 (it_rev (SqL.of q) r)⟩⟩
  · cases e1
    cases r1 with
    | tup q _ r => exact ⟨_, _, rfl, .inr ⟨Same.seqT R1.sub q, p1.here R1 (it_revT q r)⟩⟩
  · cases e1
/-! xs[::-1] of a list -/
def hRevL : D → Option Rv
  | .list ds => some (.fresh (.list ds.reverse))
  | _ => none
theorem fe_revL {k : Nat} {p1 p2 p3 : Pos} (he : FE X J W e f) : FE X J W (.Subscript e (.Slice none none (some (.UnaryOp .USub (.Constant (.int 1) k p1) p2)) p3) pos) (fUn hRevL f) := by
  obtain ⟨t, pe, s⟩ := he
  refine ⟨_, pe_revL pe, fun σ H S fs Q res fs' R e p => ?_⟩
  refine s.bind R e p fun rx fs1 x H1 S1 R1 r1 e1 p1 st1 sh1 => ?_
  unfold rd1 at e1
  split at e1
  · rename_i d q1
    split at e1
    · rename_i rv q3
      cases e1
      unfold hRevL at q3
      split at q3
      · cases q3
        obtain ⟨a, xs, rfl, qa, ra⟩ := (r1.rd R1 q1).lst
        exact ⟨a, xs, rfl, SqL.of qa, fun l hl => p1.toV.newL R1 ra.reverse hl⟩
      · cases q3
    · cases e1
  · cases e1
/-! ### dicts -/
def keyOf : D → Option Key
  | .int i => some (.inl i)
  | .str s => some (.inr s)
  | _ => none
def eqK (x : D) (k : Key) : Bool := match x, k with
  | .int i, .inl j => decide (i = j)
  | .str s, .inr t => decide (s = t)
  | _, _ => false
theorem eqK_key (k j : Key) : eqK (keyD k) j = decide (k = j) := by
  cases k <;> cases j <;> simp [eqK, keyD]
def dget (ds : List (D × D)) (k : Key) : Option D := (ds.find? fun p => eqK p.1 k).map (·.2)
def dput (ds : List (D × D)) (k : Key) (d : D) : List (D × D) := if (ds.any fun p => eqK p.1 k) = true then ds.map (fun p => if eqK p.1 k then (p.1, d) else p) else ds ++ [(keyD k, d)]
theorem Rpd.get {K : PySem.W.Frag} {S : Hp} {k : Key} {d : D} : ∀ {kvs : List (Key × V)} {ds : List (D × D)}, Rpd K S kvs ds → dget ds k = some d → ∃ v, valV kvs k = some v ∧ Rp K S v d
  | _, _, .nil, h => by simp [dget] at h
  | _, _, .cons (k := j) (v := v) r t, h => by
    unfold dget at h
    rw [List.find?_cons, eqK_key] at h
    by_cases e : j = k
    · rw [decide_eq_true e] at h
      refine ⟨v, valV_pos e, ?_⟩
      have e2 := Option.some.inj (show some _ = some d from h)
      rw [← e2]
      exact r
    · rw [decide_eq_false e] at h
      obtain ⟨u, h1, h2⟩ := Rpd.get t (show dget _ k = some d from h)
      exact ⟨u, by rw [valV_neg e]; exact h1, h2⟩
theorem Rpd.any {K : PySem.W.Frag} {S : Hp} {k : Key} : ∀ {kvs : List (Key × V)} {ds : List (D × D)}, Rpd K S kvs ds → (ds.any fun p => eqK p.1 k) = kvs.any fun kv => decide (kv.1 = k)
  | _, _, .nil => rfl
  | _, _, .cons r t => by rw [List.any_cons, List.any_cons, eqK_key, Rpd.any t]
theorem Rpd.repl {K : PySem.W.Frag} {S : Hp} {k : Key} {v : V} {d : D} (r0 : Rp K S v d) : ∀ {kvs : List (Key × V)} {ds : List (D × D)}, Rpd K S kvs ds → Rpd K S (kvs.map fun kv => if kv.1 = k then (kv.1, v) else kv) (ds.map fun p => if eqK p.1 k then (p.1, d) else p)
  | _, _, .nil => .nil
  | _, _, .cons (k := j) r t => by
    rw [List.map_cons, List.map_cons]
    by_cases e : j = k
    · rw [if_pos e, if_pos (by rw [eqK_key]; exact decide_eq_true e)]
      exact .cons r0 (Rpd.repl r0 t)
    · rw [if_neg e, if_neg (by rw [eqK_key, decide_eq_false e]; exact Bool.false_ne_true)]
      exact .cons r (Rpd.repl r0 t)
theorem Rpd.append {K : PySem.W.Frag} {S : Hp} : ∀ {a b : List (Key × V)} {c d : List (D × D)}, Rpd K S a c → Rpd K S b d → Rpd K S (a ++ b) (c ++ d)
  | _, _, _, _, .nil, s => s
  | _, _, _, _, .cons r t, s => .cons r (Rpd.append t s)
theorem Rpd.put {K : PySem.W.Frag} {S : Hp} {k : Key} {v : V} {d : D} (r0 : Rp K S v d) {kvs : List (Key × V)} {ds : List (D × D)} (r : Rpd K S kvs ds) : Rpd K S (putK kvs k v) (dput ds k d) := by
  unfold putK dput
  rw [r.any]
  split
  · exact r.repl r0
  · exact r.append (.cons r0 .nil)
theorem Rpd.length {K : PySem.W.Frag} {S : Hp} : ∀ {kvs : List (Key × V)} {ds : List (D × D)}, Rpd K S kvs ds → kvs.length = ds.length
  | _, _, .nil => rfl
  | _, _, .cons _ t => by rw [List.length_cons, List.length_cons, Rpd.length t]
theorem rp_key {K : PySem.W.Frag} {S : Hp} {v : V} {d : D} {k : Key} (r : Rp K S v d) (h : keyOf d = some k) : v = kV k ∧ d = keyD k := by
  cases r <;> simp [keyOf] at h <;> subst h <;> exact ⟨rfl, rfl⟩
theorem rpb_key {K : PySem.W.Frag} {S H : Hp} {v : V} {d : D} {k : Key} (r : RpB K S H v d) (h : keyOf d = some k) : v = kV k := by
  cases d <;> simp [keyOf] at h <;> subst h
  · exact r.int
  · exact r.str
/-- d[k] -/
def hDg : D → D → Option Rv
  | .dict ds, e => match keyOf e with
    | some k => (dget ds k).map .val
    | none => none
  | _, _ => none
def rDG : R2 := fun x y H Q => ∃ a v, x = .ref a ∧ DGet H a y (some v) ∧ Q v H
theorem op2_dg : Op2 X rDG hDg := by
  intro J σ fs H S x y d e rv Q R rx ry h p
  unfold hDg at h
  split at h
  · rename_i ds
    split at h
    · rename_i k hk
      obtain ⟨d', hd, rfl⟩ := Option.map_eq_some_iff.mp h
      rcases rx with ⟨a, kvs, rfl, ha, ra⟩ | ⟨a, xs, es, rfl, e1, _⟩
      · obtain ⟨v, h1, h2⟩ := ra.get hd
        refine ⟨a, v, rfl, ?_, p.here R h2⟩
        rw [rpb_key ry hk, ← h1]
        exact DGet.k ha
      · exfalso
        subst e1
        simp [dget, eqK] at hd
    · cases h
  · cases h
theorem fe_dget {i : Expr} (hu : X.A.units + 1 < cLine) (ha : FE X J W e f) (hb : FE X J W i g) (hs : NoSl i := by intro _ _; rfl) : FE X J W (.Subscript e i pos) (fBin hDg f g) := by
  obtain ⟨ta, pa, sa⟩ := ha
  obtain ⟨tb, pb, sb⟩ := hb
  exact ⟨tOp rDG ta tb, pe_dget hu pa pb hs, sim_op2 op2_dg sa sb⟩
/-- {} -/
def fDnew : M Rv := fun fs => some (.inr (.fresh (.dict [])), fs)
theorem fe_dnew : FE X J W (.Dict [] [] pos) fDnew := by
  refine ⟨_, pe_dnewK, fun σ H S fs Q res fs' R e p => ?_⟩
  cases e
  intro l hl
  have st := stp_newH (S := S) (o := .dK []) hl
  refine p _ S (R.grown st (same_newH hl R.sub)) (st.weak (fun _ z => z.elim) fun _ z => z.elim) (Shr.refl _) _ ⟨l, rfl, ⟨[], upd_same, .nil⟩, ?_, hl, fun z => ?_⟩
  · cases q : S l with
    | none => rfl
    | some o => rw [R.sub _ _ q] at hl; cases hl
  · obtain ⟨o, q⟩ := R.wn_live z
    rw [hl] at q; cases q
/-- d[k] = v, d an own dict -/
def sDput (i : Nat) (fv fk : M Rv) : SM := bndS (fD fv) fun d => fun fs => match fs[i]? with
  | some (.own _ (.dict _)) => bndS fk (fun kx => fun fs => match kx.rd fs with
    | some kd => match keyOf kd with
      | some k => match fs[i]? with
        | some (.own n (.dict ds)) => if ds.length < sizeLine then some (.nx, fs.set i (.own n (.dict (dput ds k d)))) else none
        | _ => none
      | none => none
    | none => none) fs
  | _ => none
theorem fs_dput {i : Nat} {x : Str} {ek ev : Expr} {fv fk : M Rv} {p1 p2 : Pos} (hu : X.A.units + 1 < cLine) (he : FE X J W ev fv) (hk : FE X J W ek fk)
    (hN : X.N[i]? = some x := by rfl) (hv : Vis X.env.scope x := by first | exact Or.inl rfl | exact Or.inr (Or.inl rfl) | exact Or.inr (Or.inr rfl)) (hd : (x == ("__debug__" : Str)) = false := by decide) (hcd : (x == ("__classdict__" : Str)) = false := by decide)
    (hs : swapsWith ev (some (.Subscript (.Name x p1) ek p2)) pos.line X.env = pure false := by rfl) :
    FS X J W (.Assign [.Subscript (.Name x p1) ek p2] ev pos) (sDput i fv fk) := by
  obtain ⟨t, pe, s⟩ := he
  obtain ⟨u, pk, s'⟩ := hk
  refine ⟨_, ps_dput hu (pe_var hN hv hd hcd) pk pe hs, fun σ H S fs D r fs' R e p => ?_⟩
  refine (s.fz).bindS R e p fun d fs1 v H1 S1 R1 r1 e1 p1 st1 sh1 => ?_
  try dsimp only at e1
  split at e1
  · rename_i n0 ds0 q0
    obtain ⟨a, w1, _⟩ := R1.own i n0 _ q0
    refine ⟨_, w1, ?_⟩
    refine s'.bindS R1 e1 p1 fun kx fs2 y H2 S2 R2 r2 e2 p2 st2 sh2 => ?_
    try dsimp only at e2
    split at e2
    · rename_i kd qk
      split at e2
      · rename_i k hk
        split at e2
        · rename_i n ds q
          split at e2
          · rename_i hz
            cases e2
            obtain ⟨a', y1, y2, y3, _⟩ := R2.own i n _ q
            rw [w1] at y1
            cases y1
            obtain ⟨kvs, z1, z2⟩ := y2
            have ek := rpb_key (r2.rd R2 qk) hk
            subst ek
            obtain ⟨R3, st3, sh3⟩ := R2.upd (o := .dK (putK kvs k v)) (d' := .dict (dput ds k d)) q w1 ⟨_, upd_same, z2.put (r1.mono st2.grow)⟩
            exact ⟨a, _, rfl, DPut.k z1 (by rw [z2.length]; exact hz), p2 _ _ S2 R3 (Same.refl _)⟩
          · cases e2
        · cases e2
      · cases e2
    · cases e2
  · cases e1
/-- dict(pairs) -/
def pairsD : List D → Option (List (Key × D))
  | [] => some []
  | .tuple [k, d] :: r => match keyOf k, pairsD r with
    | some k, some m => some ((k, d) :: m)
    | _, _ => none
  | _ :: _ => none
def mrgD : List (D × D) → List (Key × D) → List (D × D)
  | ds, [] => ds
  | ds, (k, d) :: m => mrgD (dput ds k d) m
def hDict : List D → Option Rv
  | [.list ds] => match pairsD ds with
    | some m => some (.fresh (.dict (mrgD [] m)))
    | none => none
  | _ => none
theorem Room.d1 {k : Nat} {A : Around} (r : Room k A) : A.units + 1 < cLine := by have := r.un; omega
theorem Room.d4 {k : Nat} {A : Around} (r : Room k A) : A.units + 3 + 1 < cLine := by have := r.un; omega
theorem Room.u68 {k : Nat} {A : Around} (r : Room k A) : A.units + 3 + 65 < cLine := by have := r.un; omega
end
end Fx

namespace Fx
open PySem PySem.Spec PyProof.Rows L2
section
variable {X : Cx} {J : Inf} {W : WX} {tg e : Expr} {f g : M Rv} {p pos : Pos}
theorem pairs_rp {K : PySem.W.Frag} {S : Hp} : ∀ {ds : List D} {m : List (Key × D)} {xs : List V}, pairsD ds = some m → Rps K S xs ds → ∃ (ps : List Addr) (kvs : List (Key × V)), xs = ps.map V.ref ∧ Paired (fun p kv => SqT K S p [kV kv.1, kv.2]) ps kvs ∧ Rpd K S kvs (m.map fun q => (keyD q.1, q.2)) := by
  intro ds
  induction ds with
  | nil => intro m xs h r; cases r; cases h; exact ⟨[], [], rfl, .nil, .nil⟩
  | cons d ds ih =>
    intro m xs h r
    unfold pairsD at h
    split at h
    · rename_i heq
      cases heq
    · rename_i k d' r' heq
      cases heq
      split at h
      · rename_i k' m' hk hm
        cases h
        cases r with
        | cons r1 rt =>
        cases r1 with
        | tup q _ rr =>
        cases rr with
        | cons ra rb =>
        cases rb with
        | cons rb rn =>
        cases rn
        obtain ⟨ps, kvs, e1, e2, e3⟩ := ih hm rt
        obtain ⟨ea, eb⟩ := rp_key ra hk
        subst ea
        exact ⟨_ :: ps, (k', _) :: kvs, by rw [e1]; rfl, .cons q e2, .cons rb e3⟩
      · cases h
    · cases h
theorem Rpd.merge {K : PySem.W.Frag} {S : Hp} : ∀ {m : List (Key × D)} {kvs acc : List (Key × V)} {ds : List (D × D)}, Rpd K S acc ds → Rpd K S kvs (m.map fun q => (keyD q.1, q.2)) → Rpd K S (mergeK acc kvs) (mrgD ds m) := by
  intro m
  induction m with
  | nil => intro kvs acc ds a b; cases b; exact a
  | cons q m ih =>
    intro kvs acc ds a b
    obtain ⟨k, d⟩ := q
    cases kvs with
    | nil => cases b
    | cons kv kvs =>
      obtain ⟨k2, v⟩ := kv
      have b1 : Rpd K S ((k2, v) :: kvs) ((keyD k, d) :: m.map fun q => (keyD q.1, q.2)) := b
      generalize hkd : keyD k = kd at b1
      cases b1 with
      | cons r t =>
        have : k = k2 := by
          cases k <;> cases k2 <;> simp [keyD] at hkd <;> first | (subst hkd; rfl) | skip
        subst this
        exact ih (acc := putK acc _ _) (kvs := kvs) (Rpd.put r a) t
theorem opn_dict : OpN X (fun xs H Q => ∃ (a : Addr) (ps : List Addr) (kvs : List (Key × V)), xs = [.ref a] ∧ SqL X.K H a (ps.map V.ref) ∧ Paired (fun p kv => SqT X.K H p [kV kv.1, kv.2]) ps kvs ∧
    ∀ p, H p = none → Q (.ref p) (upd H p (.dK (mergeK [] kvs)))) hDict := by
  intro J σ fs H S xs ds rv Q R r h p
  unfold hDict at h
  split at h
  · split at h
    · rename_i m hm
      cases h
      obtain ⟨v, rfl, ry⟩ := r.one
      obtain ⟨a, xs, rfl, qa, ra⟩ := ry.lst
      obtain ⟨ps, kvs, rfl, e2, e3⟩ := pairs_rp hm ra
      refine ⟨a, ps, kvs, rfl, SqL.of qa, ?_, fun l hl => ?_⟩
      · clear e3 ra qa
        induction e2 with
        | nil => exact .nil
        | cons x t ih => exact .cons (Same.seqT R.sub x) ih
      · have st := stp_newH (S := S) (o := .dK (mergeK [] kvs)) hl
        refine p _ _ (R.grown st (same_newH hl R.sub)) st _ ⟨l, rfl, ⟨_, upd_same, Rpd.merge .nil e3⟩, ?_, hl, fun z => ?_⟩
        · cases e : S l with
          | none => rfl
          | some o => rw [R.sub _ _ e] at hl; cases hl
        · obtain ⟨o, e⟩ := R.wn_live z
          rw [hl] at e; cases e
    · cases h
  · cases h
end
end Fx

namespace Fx
open PySem PySem.Spec PyProof.Rows L2
def hZipL : List D → Option Rv
  | [.tuple a, .list b] => bif decide (a.length = b.length) && decide (0 < a.length) && decide (a.length ≤ 16777216) then some (.fresh (.list (zipD a b))) else none
  | _ => none
def fZipL (f : M (List D)) : M Rv := bnd f fun ds fs => match hZipL ds with
  | some rv => some (.inr rv, fs)
  | none => none
section
variable {X : Cx} {J : Inf} {W : WX}
theorem rps_laid {K : PySem.W.Frag} {S S' : Hp} : ∀ {ts : List Addr} {xs ys : List V} {ds es : List D}, Rps K S xs ds → Rps K S ys es → Same S S' → ts.length = xs.length → xs.length = ys.length →
    (∀ (j : Nat) (t : Addr), ts[j]? = some t → ∃ o x y, xs[j]? = some x ∧ ys[j]? = some y ∧ o.dict = none ∧ S' t = some (.frz o (.tup [x, y]))) → Rps K S' (ts.map V.ref) (zipD ds es)
  | [], [], [], _, _, .nil, .nil, _, _, _, _ => .nil
  | t :: ts, x :: xs, y :: ys, _, _, .cons r1 t1, .cons r2 t2, g, h1, h2, h => by
    obtain ⟨o, x', y', e1, e2, hd, e3⟩ := h 0 t rfl
    cases e1
    cases e2
    refine .cons (.tup (.inl (.inr ⟨o, e3⟩)) (.inl ⟨o, _, e3, hd⟩) (.cons (r1.mono g) (.cons (r2.mono g) .nil))) (rps_laid t1 t2 g (by simpa using h1) (by simpa using h2) fun j t' ht => ?_)
    simpa using h (j + 1) t' (by simpa using ht)
theorem laid_run {σ : St} {fs : Fs} {H S H' : Hp} {xs ys : List V} {ds es : List D} {l : Addr} {ts : List Addr} {Q : VK} (R : Rel X.K J σ H S fs) (r1 : Rps X.K S xs ds) (r2 : Rps X.K S ys es) (hl : xs.length = ys.length) (L : ZL.Laid xs ys l ts H H') (p : PostV X J σ fs H S (.fresh (.list (zipD ds es))) Q) : Q (.ref l) H' := by
  let S' : Hp := fun b => if b ∈ ts then H' b else S b
  have hS' : ∀ t ∈ ts, S' t = H' t := fun t ht => if_pos ht
  have hT : ∀ t ∈ ts, H t = none ∧ ∃ u, H' t = some u := fun t ht => by
    obtain ⟨j, hj⟩ := List.mem_iff_getElem?.mp ht
    obtain ⟨h1, o, x, y, _, _, _, h2⟩ := L.pair j t hj
    exact ⟨h1, _, h2⟩
  have hup : ∀ a o, H a = some o → H' a = some o := fun a o e => by
    rw [L.rest a (fun q => by rw [q, L.ln] at e; cases e) (fun q => by rw [(hT a q).1] at e; cases e)]
    exact e
  have hgr : Same S S' := fun a u e => by
    have : a ∉ ts := fun q => by have := R.sub _ _ e; rw [(hT a q).1] at this; cases this
    show (if a ∈ ts then _ else _) = _
    rw [if_neg this]; exact e
  have hsub : Same S' H' := fun a u e => by
    by_cases q : a ∈ ts
    · rw [hS' a q] at e; exact e
    · have e' : S a = some u := by
        have : S' a = S a := if_neg q
        rw [this] at e; exact e
      exact hup a u (R.sub _ _ e')
  have st : Stp (fun _ => False) (fun _ => False) H S H' S' := ⟨fun a o e _ => hup a o e, hgr, fun a h => by
    by_cases q : a ∈ ts
    · exact .inr (.inl (hT a q).1)
    · refine .inl ?_
      have : S' a = S a := if_neg q
      rw [this] at h; exact h, fun a h => by
    cases e : H a with
    | none => exact absurd e h
    | some o => rw [hup a o e]; simp⟩
  refine p H' S' (R.grown st hsub) st _ ⟨l, rfl, ⟨_, L.lt, rps_laid r1 r2 hgr L.len hl fun j t ht => ?_⟩, ?_, L.ln, fun z => ?_⟩
  · obtain ⟨_, o, x, y, e1, e2, hd, h2⟩ := L.pair j t ht
    exact ⟨o, x, y, e1, e2, hd, by rw [hS' t (List.mem_of_getElem? ht)]; exact h2⟩
  · have : S' l = S l := if_neg L.ne
    rw [this]
    cases e : S l with
    | none => rfl
    | some o => have := R.sub _ _ e; rw [L.ln] at this; cases this
  · obtain ⟨o, e⟩ := R.wn_live z
    rw [L.ln] at e; cases e
theorem fe_listZip {e e2 : Expr} {gs : M (List D)} {p p2 pos pos2 : Pos} (hc : X.calm = true) (hg : Gl X "list") (hm : X.mg "list" = none) (hg2 : Gl X "zip") (hm2 : X.mg "zip" = none) (ha : FDs X J W [e, e2] gs)
    (hs : starEach [e, e2] X.env = (false, eval e X.env) :: starEach [e2] X.env := by rfl) (hpl : (backTo pos2 (starEach [e2] X.env)).any (·.1) = false := by rfl)
    (na : starEach [.Call (.Name "zip" p2) [e, e2] [] pos2] X.env = (false, eval (.Call (.Name "zip" p2) [e, e2] [] pos2) X.env) :: starEach [] X.env := by rfl) :
    FE X J W (.Call (.Name "list" p) [.Call (.Name "zip" p2) [e, e2] [] pos2] [] pos) (fZipL gs) := by
  obtain ⟨t, pa, s⟩ := ha
  refine ⟨_, ZL.pe_listZip hc hg hm hg2 hm2 pa hs hpl na, fun σ H S fs Q res fs' R e p => ?_⟩
  refine s.bind R e p fun ds fs1 vs H1 S1 R1 r1 e1 p1 _ _ => ?_
  try dsimp only at e1
  unfold hZipL at e1
  split at e1
  · rename_i rv q
    cases e1
    split at q
    · rename_i a b
      cases c : (decide (a.length = b.length) && decide (0 < a.length) && decide (a.length ≤ 16777216)) with
      | false => rw [c] at q; cases q
      | true =>
        rw [c] at q
        cases q
        simp only [Bool.and_eq_true, decide_eq_true_eq] at c
        cases r1 with
        | cons q1 r1 =>
        cases r1 with
        | cons q2 r1 =>
        cases r1
        cases q1 with
        | tup z1 _ z2 =>
        cases q2 with
        | lst z3 z4 =>
          have l1 := z2.length
          have l2 := z4.length
          exact ⟨_, _, _, _, rfl, Same.seqT R1.sub z1, SqL.of (R1.sub _ _ z3), by omega, by omega, by omega, fun l ts H' L => laid_run R1 z2 z4 (by omega) L p1.toV⟩
    · cases q
  · cases e1
end
end Fx

namespace Fx
open PySem PySem.Spec PyProof.Rows L2
section
variable {X : Cx} {J : Inf} {W : WX}
theorem it_enumT {K : PySem.W.Frag} {S : Hp} {a : Addr} {xs : List V} {ds : List D} (h : SqT K S a xs) (r : Rps K S xs ds) : ItOk false K S (EZ.IteT K a) (enumD 0 ds) where
  go := fun i H S' hi s1 s2 => by
    rw [enumD_length] at hi
    exact ⟨xs, xs[i]'(by rw [r.length]; exact hi), Same.seqT (s1.trans s2) h, by simp⟩
  yld := fun i H S' x H' hi s1 s2 y => by
    obtain ⟨T, u, rfl, hT, rfl, q1⟩ := y
    obtain ⟨d, h3, h4⟩ := r.get' (q1 xs (Same.seqT (s1.trans s2) h))
    refine ⟨_, _, enumD_get h3, stp_newS (o := .tup [.int (i : Nat), u]) hT s2, same_newS hT s2, ?_⟩
    rw [Nat.zero_add]
    exact rpk_pair s2 hT (Rp.int _) (h4.mono s1)
  stop := fun H S' s1 s2 => by
    refine ⟨xs, Same.seqT (s1.trans s2) h, ?_⟩
    rw [enumD_length, r.length]
    exact Nat.le_refl _
def fiEnumA (f : M (List D)) : M (List D) := bnd f fun ds fs => match ds with
  | [.list a] => some (.inr (enumD 0 a), fs)
  | [.tuple a] => some (.inr (enumD 0 a), fs)
  | _ => none
theorem fi_enumA {e : Expr} {gs : M (List D)} {elts : List Expr} {kk : Nat} {tpos p pos : Pos} (hg : Gl X "enumerate") (hm : X.mg "enumerate" = none) (ha : FDs X J W [e] gs)
    (hs : starEach [e] X.env = [(false, eval e X.env)] := by rfl) :
    FI X J W false (.Tuple elts kk tpos) (.Call (.Name "enumerate" p) [e] [] pos) (fiEnumA gs) := by
  obtain ⟨t, pa, s⟩ := ha
  refine ⟨_, EZ.pi_enA hg hm pa hs, fun σ H S fs Q res fs' R e p => ?_⟩
  refine s.bind R e p fun ds fs1 vs H1 S1 R1 r1 e1 p1 _ _ => ?_
  try dsimp only at e1
  split at e1
  · cases e1
    cases r1 with
    | cons q1 r1 =>
      cases r1
      cases q1 with
      | lst z1 z2 => exact ⟨_, _, rfl, .inl ⟨SqL.of (R1.sub _ _ z1), p1.here R1 (it_enum (SqL.of z1) z2)⟩⟩
  · cases e1
    cases r1 with
    | cons q1 r1 =>
      cases r1
      cases q1 with
      | tup z1 _ z2 => exact ⟨_, _, rfl, .inr ⟨Same.seqT R1.sub z1, p1.here R1 (it_enumT z1 z2)⟩⟩
  · cases e1
end
end Fx

namespace Fx
open PySem PySem.Spec PyProof.Rows L2
/-! a truth that only looks: what is owned stays owned -/
def Sl.fzS : Sl → Sl
  | .own _ d => .dat d
  | s => s
def Sl.nb : Sl → Bool
  | .own (_ + 1) _ => false
  | _ => true
def fRO (f : M Rv) : M Rv := fun fs => bif fs.all Sl.nb then (match f (fs.map Sl.fzS) with
  | some (.inr (.val (.bool b)), _) => some (.inr (.val (.bool b)), fs)
  | _ => none) else none
theorem fRO_of {f : M Rv} {fs fs1 : Fs} {b : Bool} (h : fs.all Sl.nb = true) (e : f (fs.map Sl.fzS) = some (.inr (.val (.bool b)), fs1)) : fRO f fs = some (.inr (.val (.bool b)), fs) := by
  unfold fRO
  rw [h, cond_true, e]
section
variable {K : PySem.W.Frag} {J : Inf} {mg : Str → Option Value} {W : WX}
theorem own_rp' {S S' H : Hp} {p : Addr} {d : D} {o : HO} (h : OwnAt K S H p d) (e : H p = some o) (hs : S' p = some o) (g : Same S S') : Rp K S' (.ref p) d := by
  cases d with
  | list ds =>
    obtain ⟨xs, e', r⟩ := h
    rw [e] at e'; cases e'
    exact .lst hs (r.mono g)
  | dict ds =>
    obtain ⟨xs, e', r⟩ := h
    rw [e] at e'; cases e'
    exact .dct hs (r.mono g)
  | _ => exact False.elim h
open Classical in
theorem sim_ro {t : TE} {f : M Rv} (s : Sim K J mg W t (rV K) f) : Sim K J mg W t (rV K) (fRO f) := by
  intro σ H S fs Q res fs' R e p
  unfold fRO at e
  cases hb : fs.all Sl.nb with
  | false => rw [hb] at e; cases e
  | true =>
    rw [hb, cond_true] at e
    split at e
    · rename_i b fs2 q
      cases e
      let S1 : Hp := fun a => if Wn σ fs a then H a else S a
      have hw0 : ∀ a, Wn σ fs a → Wz σ fs a := by
        rintro a ⟨i, n, d, h1, h2⟩
        have := List.all_eq_true.mp hb _ (List.mem_of_getElem? h1)
        cases n with
        | zero => exact ⟨i, d, h1, h2⟩
        | succ n => exact absurd this (by simp [Sl.nb])
      have hgr : Same S S1 := fun a u e => by
        have hn : ¬ Wn σ fs a := fun w => by rw [R.wn_out w] at e; cases e
        show (if Wn σ fs a then H a else S a) = _
        rw [if_neg hn]; exact e
      have hsub : Same S1 H := fun a u e => by
        by_cases w : Wn σ fs a
        · have : S1 a = H a := if_pos w
          rw [this] at e; exact e
        · have : S1 a = S a := if_neg w
          rw [this] at e; exact R.sub _ _ e
      have hget : ∀ i : Nat, (fs.map Sl.fzS)[i]? = (fs[i]?).map Sl.fzS := fun i => List.getElem?_map ..
      have noown : ∀ (i n : Nat) (d : D), (fs.map Sl.fzS)[i]? ≠ some (.own n d) := fun i n d e => by
        rw [hget] at e
        obtain ⟨x, _, hx⟩ := Option.map_eq_some_iff.mp e
        cases x <;> simp [Sl.fzS] at hx
      have R1 : Rel K J σ H S1 (fs.map Sl.fzS) := by
        refine ⟨hsub, by rw [List.length_map]; exact R.len, fun i d e => ?_, fun i n d e => absurd e (noown i n d), fun i j n m d e' p h1 => absurd h1 (noown i n d), R.keep0, R.grow0.trans hgr, fun a h => ?_, R.live0, R.bwl⟩
        · rw [hget] at e
          obtain ⟨x, hx, ex⟩ := Option.map_eq_some_iff.mp e
          cases x with
          | no => simp [Sl.fzS] at ex
          | dat d' =>
            have : d' = d := by simpa [Sl.fzS] using ex
            subst this
            obtain ⟨v, h1, h2⟩ := R.dat i d' hx
            exact ⟨v, h1, h2.mono hgr⟩
          | own n d' =>
            have : d' = d := by simpa [Sl.fzS] using ex
            subst this
            obtain ⟨p, h1, h2, h3, h4⟩ := R.own i n d' hx
            obtain ⟨o, ho⟩ := h2.live
            have w : Wn σ fs p := ⟨i, n, d', hx, h1⟩
            exact ⟨_, h1, own_rp' h2 ho (show S1 p = some o by rw [show S1 p = H p from if_pos w]; exact ho) hgr⟩
        · by_cases w : Wn σ fs a
          · obtain ⟨i, d, h1, h2⟩ := hw0 a w
            obtain ⟨p, q1, _, _, q4⟩ := R.own i 0 d h1
            rw [h2] at q1
            cases q1
            exact .inr q4
          · have : S1 a = S a := if_neg w
            rw [this] at h
            exact R.new0 a h
      refine s σ H S1 (fs.map Sl.fzS) Q _ fs2 R1 q fun H' S' R2 st sh v rv => ?_
      have rb : Rp K S' v (.bool b) := rv
      cases rb
      have hup : ∀ a o, H a = some o → H' a = some o := fun a o e => st.keep a o e fun ⟨i, n, d, h1, _⟩ => noown i n d h1
      have st' : Stp (fun _ => False) (fun _ => False) H S H' S := ⟨fun a o e _ => hup a o e, Same.refl _, fun a h => .inl h, st.live⟩
      have sub' : Same S H' := fun a u e => hup a u (R.sub _ _ e)
      exact p H' S (R.grown st' sub') (st'.weak (fun _ z => z.elim) fun _ z => z.elim) (Shr.refl _) _ (show RvR K σ fs H H' S (.bl b) (.val (.bool b)) from Rp.bl b)
    · cases e
variable {X : Cx} {e : Expr} {f : M Rv}
theorem fe_ro (h : FE X J W e f) : FE X J W e (fRO f) := let ⟨t, p, s⟩ := h; ⟨t, p, sim_ro s⟩
end
end Fx

namespace Fx
open PySem PySem.Spec PyProof.Rows L2
/-! ### a told tuple whose first item is a list made by the def; it may be put on to -/
def NewHd (K : PySem.W.Frag) (H0 S : Hp) (v : V) : Prop := ∃ (a p : Addr) (xs ys : List V), v = .ref a ∧ SqT K S a (.ref p :: xs) ∧ H0 p = none ∧ S p = some (.lst ys) ∧ ys.length < sizeLine
def PostN (K : PySem.W.Frag) (J : Inf) (mg : Str → Option Value) (W : WX) (D : Ends) (S : Hp) (r : Fl) (fs' : Fs) : Prop :=
  ∀ σ' H' S', Rel K J σ' H' S' fs' → Same S S' → match r with
    | .ret false d => ∀ v, Rp K S' v d → NewHd K J.H0 S' v → D.rt v H'
    | .ex c => ∀ C, mg c = some (.ref C) → W (.ref C) none σ' H'
    | _ => False
def SimN (K : PySem.W.Frag) (J : Inf) (mg : Str → Option Value) (W : WX) (t : TS) (g : SM) : Prop :=
  ∀ (σ : St) (H S : Hp) (fs : Fs) (D : Ends) (r : Fl) (fs' : Fs), Rel K J σ H S fs → g fs = some (r, fs') → PostN K J mg W D S r fs' → t D σ H
def FsN (X : Cx) (J : Inf) (W : WX) (st : List Stmt) (g : SM) : Prop := ∃ t, PSs X st t ∧ SimN X.K J X.mg W t g
def sConsN (g h : SM) : SM := fun fs => match g fs with
  | some (.nx, fs1) => h fs1
  | some (.ex c, fs1) => some (.ex c, fs1)
  | _ => none
def sRetP (i j : Nat) : SM := fun fs => match fs[i]?, fs[j]? with
  | some (.own 0 (.list ds)), some (.dat d) => if ds.length < sizeLine then some (.ret false (.tuple [.list ds, d]), fs.set i .no) else none
  | _, _ => none
section
variable {X : Cx} {J : Inf} {W : WX} {st : Stmt} {rest : List Stmt} {g h : SM} {pos : Pos}
theorem fsn_cons (h1 : FS X J W st g) (h2 : FsN X J W rest h) : FsN X J W (st :: rest) (sConsN g h) := by
  obtain ⟨t, pt, s1⟩ := h1
  obtain ⟨u, pu, s2⟩ := h2
  refine ⟨_, pss_cons pt pu, fun σ H S fs D r fs' R e p => ?_⟩
  unfold sConsN at e
  split at e
  · rename_i fs1 q
    exact s1 σ H S fs _ _ _ R q fun σ' H' S' R' gr => s2 σ' H' S' fs1 D r fs' R' e fun σ2 H2 S2 R2 g2 => p σ2 H2 S2 R2 (gr.trans g2)
  · rename_i c fs1 q
    cases e
    exact s1 σ H S fs _ _ _ R q fun σ' H' S' R' gr => p σ' H' S' R' gr
  · cases e
theorem fsn_ret (i j : Nat) {x y : Str} {px py tp : Pos} {k : Nat} (hx : X.N[i]? = some x := by rfl) (hy : X.N[j]? = some y := by rfl)
    (vx : Vis X.env.scope x := by first | exact Or.inl rfl | exact Or.inr (Or.inl rfl) | exact Or.inr (Or.inr rfl)) (vy : Vis X.env.scope y := by first | exact Or.inl rfl | exact Or.inr (Or.inl rfl) | exact Or.inr (Or.inr rfl))
    (dx : (x == ("__debug__" : Str)) = false := by decide) (dy : (y == ("__debug__" : Str)) = false := by decide) (cx : (x == ("__classdict__" : Str)) = false := by decide) (cy : (y == ("__classdict__" : Str)) = false := by decide)
    (s1 : starEach [.Name x px, .Name y py] X.env = (false, eval (.Name x px) X.env) :: starEach [.Name y py] X.env := by rfl) (s2 : starEach [.Name y py] X.env = (false, eval (.Name y py) X.env) :: starEach [] X.env := by rfl) :
    FsN X J W [.Return (some (.Tuple [.Name x px, .Name y py] k tp)) pos] (sRetP i j) := by
  refine ⟨_, pss_one (ps_ret (pe_tupF (pa_cons (pe_var hx vx dx cx) (pa_cons (pe_var hy vy dy cy) pa_nil s2) s1))), fun σ H S fs D r fs' R e p => ?_⟩
  unfold sRetP at e
  split at e
  · rename_i ds d qi qj
    split at e
    · rename_i hz
      cases e
      obtain ⟨p0, h1, ⟨xs, h2, rxs⟩, h3, h4⟩ := R.own i 0 _ qi
      obtain ⟨v2, h5, h6⟩ := R.dat j d qj
      have hnp : J.H0 p0 = none := h4
      have ef : (Rv.slot i).fz fs = some (PyData.list ds, fs.set i (.dat (.list ds))) := by simp only [Rv.fz, qi]
      obtain ⟨S1, R1, st1, sh1, r1, st2⟩ := RvR.fz (v := .ref p0) (rv := .slot i) R (show RvR X.K σ fs H H S (.ref p0) (.slot i) from h1) ef R Stp.refl (Shr.refl _)
      refine ⟨_, h1, _, h5, by show 2 ≤ sizeLine; rw [sizeLine_eq]; omega, fun l o hl hd => ?_⟩
      have R2 := R1.lose i
      rw [List.set_set] at R2
      have st3 := stp_newS (o := .frz o (.tup [.ref p0, v2])) hl R1.sub
      have R3 := R2.grown st3 (same_newS hl R1.sub)
      have hS1 : ∃ ys, S1 p0 = some (.lst ys) ∧ ys.length < sizeLine := by
        cases r1 with
        | lst q r => exact ⟨_, q, by rw [Rps.length r]; exact hz⟩
      obtain ⟨ys, hys, hyl⟩ := hS1
      have hne : p0 ≠ l := fun z => by rw [z, hl] at h2; cases h2
      exact p σ _ _ R3 (st1.grow.trans st3.grow) (.ref l) (rp_newT hd R1.sub (.cons r1 (.cons (h6.mono st1.grow) .nil)) hl) ⟨l, p0, [v2], ys, rfl, .inl (.inr ⟨o, upd_same⟩), hnp, by rw [upd_ne hne]; exact hys, hyl⟩
    · cases e
  · cases e
end
def mkFnN (k N : Nat) (g : SM) : Fn := fun as => if as.length = k then
    match g (as ++ List.replicate (N - k) .no) with
    | some (.ret false d, fs) => some (.inr (false, d), outs k 0 fs)
    | some (.ex c, fs) => some (.inl c, outs k 0 fs)
    | _ => none
  else none
def spN (K : PySem.W.Frag) (mg : Str → Option Value) (G : Fn) : Sp := fun vs H Q E => ∃ S as res outs, Same S H ∧ ArgR K S H vs as ∧ G as = some (res, outs) ∧
  ∀ H' S', Same S' H' → Stp (Bx vs as) (fun _ => False) H S H' S' → OutR K S' H' vs as outs → match res with
    | .inl c => ∀ C, mg c = some (.ref C) → E (.ref C) none H'
    | .inr (fr, d) => ∀ v, RetR K H S' H' v fr d → NewHd K H S' v → Q v H'
section
variable {P : Program} {w : World} {K : PySem.W.Frag} {mg : Str → Option Value} {base : Heap}
theorem fn_mkN {x qual : Str} {st : Stmt} {f : Addr} {fd : FuncData} {N ps : List Str} {k : Nat} {g : SM} (F : Fun K x qual st f fd) (Sc : FnScope N ps (defScope st))
    (hb : ∀ (cdv : Value) (A : Around) (outer : List Env) (s : Shared) (H : Hp) (E : XK) (J : Inf), Room k (A.deeper (envOfC qual (defScope st) s.heap.objs.size f cdv)) →
      FsN (cxOf (L2.CX P w) P w K mg base N qual (defScope st) f cdv A outer s H E) J (fun cls d _ H' => E cls d H') (defBody st) g) :
    FnOk P w K mg base (L2.CX P w) (k + 1) f fd ps (spN K mg (mkFnN ps.length N.length g)) := by
  have hpl : ps.length ≤ N.length := by have := congrArg List.length Sc.pre; rw [List.length_take] at this; omega
  have arg : ∀ {vs : List V} {as : List Sl} {S H : Hp} {r}, ArgR K S H vs as → mkFnN ps.length N.length g as = some r → vs.length = ps.length := fun {vs as S H r} A e => by
    unfold mkFnN at e
    split at e
    · rename_i hl; rw [A.len]; exact hl
    · cases e
  refine F.okX Sc (fun vs H Q E h => ?_) (fun cdv A outer s H vs Q E hr h => ?_)
  · obtain ⟨S, as, res, os, sub, AR, e, _⟩ := h
    exact arg AR e
  · obtain ⟨S, as, res, os, sub, AR, e, post⟩ := h
    have hl := arg AR e
    obtain ⟨t, pt, sim⟩ := hb cdv A outer s H E (infOf vs as H S) hr
    refine ⟨t, pt, ?_⟩
    have R := rel_start (N := N) sub AR (by rw [hl]; exact hpl)
    rw [hl] at R
    unfold mkFnN at e
    rw [if_pos (by rw [← AR.len]; exact hl)] at e
    have fin : ∀ {σ' : St} {H' S' : Hp} {fs' : Fs}, Rel K (infOf vs as H S) σ' H' S' fs' → Same S' H' ∧ Stp (Bx vs as) (fun _ => False) H S H' S' ∧ OutR K S' H' vs as (outs ps.length 0 fs') := fun {σ' H' S' fs'} R' => by
      refine ⟨R'.sub, ⟨fun a o q nb => R'.keep0 a o q fun z => nb (bw_bx z), R'.grow0, fun a q => (R'.new0 a q).imp id .inl, R'.live0⟩, fun i n d q => ?_⟩
      obtain ⟨q1, q2⟩ := outs_get q
      obtain ⟨p, z1, z2, z3, z4⟩ := R'.own i n d q1
      have en : n = i + 1 := by omega
      subst en
      have z4' : (match as[i]?, vs[i]? with
        | some (.own _ _), some (.ref p) => some p
        | _, _ => none) = some p := z4
      split at z4'
      · rename_i m e0 p' w1 w2
        cases z4'
        exact ⟨⟨m, e0, w1⟩, p, w2, z2, z3⟩
      · cases z4'
    split at e
    · rename_i d fs' q
      cases e
      refine sim _ H S _ _ (.ret false d) fs' R q fun σ' H' S' R' _ v r nv => ?_
      obtain ⟨f1, f2, f3⟩ := fin R'
      exact post H' S' f1 f2 f3 v r nv
    · rename_i c fs' q
      cases e
      refine sim _ H S _ _ (.ex c) fs' R q fun σ' H' S' R' _ C hC => ?_
      obtain ⟨f1, f2, f3⟩ := fin R'
      exact post H' S' f1 f2 f3 C hC
    · cases e
end
/-! ### what only looks -/
section
variable {K : PySem.W.Frag}
def Pure {α : Type} (f : M α) : Prop := ∀ fs r fs', f fs = some (.inr r, fs') → fs' = fs
theorem Pure.rt {α : Type} (a : α) : Pure (rt a) := fun fs r fs' e => by cases e; rfl
theorem Pure.bnd {α β : Type} {f : M α} {g : α → M β} (hf : Pure f) (hg : ∀ a, Pure (g a)) : Pure (bnd f g) := fun fs r fs' e => by
  unfold Fx.bnd at e
  split at e
  · cases e
  · cases e
  · rename_i a fs1 q
    have := hf _ _ _ q
    subst this
    exact hg a _ _ _ e
theorem Pure.var (i : Nat) : Pure (fVar i) := fun fs r fs' e => by
  unfold fVar at e
  split at e <;> first | (cases e; rfl) | cases e
theorem Pure.val (d : D) : Pure (fVal d) := fun fs r fs' e => by cases e; rfl
theorem Pure.rd2 (h : D → D → Option Rv) (x y : Rv) : Pure (rd2 h x y) := fun fs r fs' e => by
  unfold Fx.rd2 at e
  split at e
  · split at e
    · cases e; rfl
    · cases e
  · cases e
theorem Pure.rd1 (h : D → Option Rv) (x : Rv) : Pure (rd1 h x) := fun fs r fs' e => by
  unfold Fx.rd1 at e
  split at e
  · split at e
    · cases e; rfl
    · cases e
  · cases e
theorem Pure.bin {h : D → D → Option Rv} {f g : M Rv} (hf : Pure f) (hg : Pure g) : Pure (fBin h f g) := hf.bnd fun x => hg.bnd fun y => Pure.rd2 h x y
theorem Pure.un {h : D → Option Rv} {f : M Rv} (hf : Pure f) : Pure (fUn h f) := hf.bnd fun x => Pure.rd1 h x
theorem Pure.toB (r : Rv) : Pure (toB r) := fun fs b fs' e => by
  unfold Fx.toB at e
  split at e
  · cases e; rfl
  · cases e
theorem Pure.fB {f : M Rv} (hf : Pure f) : Pure (fB f) := hf.bnd Pure.toB
theorem Pure.fOr {f g : M Bool} (hf : Pure f) (hg : Pure g) : Pure (fOr f g) := hf.bnd fun b => by
  cases b
  · exact hg
  · exact Pure.rt _
theorem Pure.fAnd {f g : M Bool} (hf : Pure f) (hg : Pure g) : Pure (fAnd f g) := hf.bnd fun b => by
  cases b
  · exact Pure.rt _
  · exact hg
theorem Pure.fNot {f : M Bool} (hf : Pure f) : Pure (fNot f) := hf.bnd fun b => Pure.rt _
def isIntD : D → Bool
  | .int _ => true
  | _ => false
def intSl : Sl → Bool
  | .own _ (.list ds) => ds.all isIntD
  | .own _ _ => false
  | _ => true
theorem Rps.ints_any {K : PySem.W.Frag} {S S' : Hp} {xs : List V} {ds : List D} (h : ds.all isIntD = true) (r : Rps K S xs ds) : Rps K S' xs ds := by
  induction xs generalizing ds with
  | nil => cases r; exact .nil
  | cons v vs ih =>
    cases r with
    | cons r t =>
      rw [List.all_cons, Bool.and_eq_true] at h
      refine .cons ?_ (ih h.2 t)
      cases r with
      | int i => exact .int i
      | _ => exact absurd h.1 (by simp [isIntD])
end
/-- x = f(a, b); if c: g; x[0].append(z) -/
def sPoke (i a b : Nat) (G : Fn) (c : M Bool) (g : SM) : SM := fun fs => match fs[a]?, fs[b]? with
  | some (.dat da), some (.dat db) => match G [.dat da, .dat db] with
    | some (.inr (false, d), _) => match c (fs.set i (.dat d)) with
      | some (.inr true, fs1) => match g fs1 with
        | some (.ret fr e, fs2) => some (.ret fr e, fs2)
        | _ => none
      | some (.inr false, _) => if fs.all intSl = true ∧ i < fs.length then some (.nx, fs.set i .no) else none
      | _ => none
    | _ => none
  | _, _ => none
section
variable {X : Cx} {J : Inf} {W : WX} {k : Nat} {fa : Addr} {fd : FuncData} {ps : List Str} {G : Fn} {f x y z : Str} {c : Expr} {th : List Stmt} {fc : M Bool} {g : SM} {zi : Int}
theorem rel_poke {σ : St} {H S H1 S1 H2 S2 : Hp} {fs : Fs} {i : Nat} {v : V} {p : Addr} {ys : List V} {d : D} (R : Rel X.K J σ H S fs) (st1 : Stp (fun _ => False) (fun _ => False) H S H1 S1) (R2 : Rel X.K J (σ.set i (some v)) H2 S2 (fs.set i (.dat d))) (g2 : Same S1 S2)
    (hp : H p = none) (hp2 : H2 p = some (.lst ys)) (hi : fs.all intSl = true) : Rel X.K J (σ.set i (some v)) (upd H2 p (.lst (ys ++ [.int zi]))) S (fs.set i .no) := by
  have ne : ∀ {a : Addr} {o : HO}, H a = some o → a ≠ p := fun {a o} e z => by rw [z, hp] at e; cases e
  have noi : ∀ {j : Nat} {s : Sl}, s ≠ .no → (fs.set i .no)[j]? = some s → i ≠ j ∧ fs[j]? = some s := fun {j s} hs q => by
    by_cases hj : i = j
    · subst hj
      by_cases hl : i < fs.length
      · rw [List.getElem?_set_self hl] at q
        cases q
        exact absurd rfl hs
      · rw [List.getElem?_eq_none (by simpa using hl)] at q; cases q
    · rw [List.getElem?_set_ne hj] at q
      exact ⟨hj, q⟩
  have live0 : ∀ a, J.H0 a ≠ none → a ≠ p := fun a h => by
    have := R.live0 a h
    intro z
    rw [z] at this
    exact this hp
  refine ⟨fun a o e => ?_, ?_, fun j d' q => ?_, fun j n d' q => ?_, fun j j2 n m d1 d2 q q1 q2 z1 z2 => ?_, fun a o e nb => ?_, R.grow0, R.new0, fun a h => ?_, R.bwl⟩
  · have h2 : H2 a = some o := R2.sub _ _ (g2 _ _ (st1.grow _ _ e))
    rw [upd_ne (ne (R.sub _ _ e))]
    exact h2
  · rw [List.length_set, List.length_set]; exact R.len
  · obtain ⟨hj, q'⟩ := noi (by simp) q
    rw [List.getElem?_set_ne hj]
    exact R.dat j d' q'
  · obtain ⟨hj, q'⟩ := noi (by simp) q
    obtain ⟨pj, w1, w2, w3, w4⟩ := R.own j n d' q'
    obtain ⟨pj2, x1, x2, _, _⟩ := R2.own j n d' (by rw [List.getElem?_set_ne hj]; exact q')
    rw [List.getElem?_set_ne hj] at x1 ⊢
    rw [w1] at x1
    cases x1
    have hin : intSl (.own n d') = true := List.all_eq_true.mp hi _ (List.mem_of_getElem? q')
    refine ⟨pj, w1, ?_, w3, w4⟩
    obtain ⟨o, ho⟩ := w2.live
    have npj := ne ho
    cases d' with
    | list ds =>
      obtain ⟨xs, e1, e2⟩ := x2
      exact ⟨xs, by rw [upd_ne npj]; exact e1, Rps.ints_any hin e2⟩
    | _ => exact absurd hin (by simp [intSl])
  · obtain ⟨hj, q1'⟩ := noi (by simp) q1
    obtain ⟨hj2, q2'⟩ := noi (by simp) q2
    rw [List.getElem?_set_ne hj] at z1
    rw [List.getElem?_set_ne hj2] at z2
    exact R.sep j j2 n m d1 d2 q q1' q2' z1 z2
  · rw [upd_ne (live0 a (by rw [e]; simp))]
    exact R2.keep0 a o e nb
  · rw [upd_ne (live0 a h)]
    exact R2.live0 a h
theorem fss_poke (i a b : Nat) {pf px px2 pz pc py ps1 ps2 ps3 psub pzero pap papc pone : Pos} {k0 k1 : Nat} (hN : X.N.Nodup) (FF : FnOk X.prog X.w X.K X.mg X.base (L2.CX X.prog X.w) k fa fd ps (spN X.K X.mg G)) (hr : Room k X.A) (hg : Gl X f) (hm : X.mg f = some (.ref fa)) (hk : PySem.W.keepIn X.K (.ref fa) = true) (hb : Binds X.K fd ps []) (tk : Takes X W)
    (hc : FT X J W c fc) (hpure : Pure fc) (ht : FSs X J W th g)
    (hi : X.N[i]? = some x := by rfl) (ha : X.N[a]? = some y := by rfl) (hbn : X.N[b]? = some z := by rfl)
    (lx : Loc X.env.scope x := by first | exact Or.inl rfl | exact Or.inr rfl) (vx : Vis X.env.scope x := by first | exact Or.inl rfl | exact Or.inr (Or.inl rfl) | exact Or.inr (Or.inr rfl))
    (vy : Vis X.env.scope y := by first | exact Or.inl rfl | exact Or.inr (Or.inl rfl) | exact Or.inr (Or.inr rfl)) (vz : Vis X.env.scope z := by first | exact Or.inl rfl | exact Or.inr (Or.inl rfl) | exact Or.inr (Or.inr rfl))
    (dx : (x == ("__debug__" : Str)) = false := by decide) (dy : (y == ("__debug__" : Str)) = false := by decide) (dz : (z == ("__debug__" : Str)) = false := by decide) (df : (f == ("__debug__" : Str)) = false := by decide)
    (cx : (x == ("__classdict__" : Str)) = false := by decide) (cy : (y == ("__classdict__" : Str)) = false := by decide) (cz : (z == ("__classdict__" : Str)) = false := by decide)
    (s1 : starEach [.Name y py, .Name z pz] X.env = (false, eval (.Name y py) X.env) :: starEach [.Name z pz] X.env := by rfl) (s2 : starEach [.Name z pz] X.env = (false, eval (.Name z pz) X.env) :: starEach [] X.env := by rfl)
    (hpl : (backTo pc (starEach [.Name z pz] X.env)).any (·.1) = false := by rfl)
    (sw : swapsWith (.Call (.Name f pf) [.Name y py, .Name z pz] [] pc) (some (.Name x px)) ps1.line X.env = pure false := by rfl) (hf : X.fn x = true ∨ X.env.scope.names.lookup x = some .local := by first | exact .inl rfl | exact .inr rfl | assumption)
    (sx : swapsWith (.Call (.Attribute (.Subscript (.Name x px2) (.Constant (.int 0) k0 pzero) psub) "append" pap) [.Constant (.int zi) k1 pone] [] papc) none ps3.line X.env = pure false := by rfl)
    (hbase : attributeBase (.Subscript (.Name x px2) (.Constant (.int 0) k0 pzero) psub) "append" X.env (eval (.Subscript (.Name x px2) (.Constant (.int 0) k0 pzero) psub) X.env) = eval (.Subscript (.Name x px2) (.Constant (.int 0) k0 pzero) psub) X.env := by rfl)
    (hfew : ((backTo papc (starEach [.Constant (.int zi) k1 pone] X.env)).all (fun x => !x.1) && (backToKw papc (keywordEach [] X.env)).all (fun x => x.1.isSome)
      && decide (([.Constant (.int zi) k1 pone] : List Expr).length + ([] : List Keyword).length + (if ([] : List Keyword).isEmpty then 0 else 1) < 30)) = true := by rfl)
    (hline : (pap.endLine == papc.line) = true := by rfl) (s3 : starEach [.Constant (.int zi) k1 pone] X.env = (false, eval (.Constant (.int zi) k1 pone) X.env) :: starEach [] X.env := by rfl) (hplain : (backTo papc (starEach [] X.env)).any (·.1) = false := by rfl) (hs : PlainIx (.Constant (.int 0) k0 pzero) := by intro _ _; rfl) :
    FSs X J W [.Assign [.Name x px] (.Call (.Name f pf) [.Name y py, .Name z pz] [] pc) ps1, .If c th [] ps2, .Expr (.Call (.Attribute (.Subscript (.Name x px2) (.Constant (.int 0) k0 pzero) psub) "append" pap) [.Constant (.int zi) k1 pone] [] papc) ps3] (sPoke i a b G fc g) := by
  obtain ⟨tc, ptc, sc⟩ := hc
  obtain ⟨tt, ptt, st⟩ := ht
  refine ⟨_, pss_cons (ps_set hN hi lx (pe_callS FF hr hg hm hk hb (fun σ => passAt tk σ) (pa_cons (pe_var ha vy dy cy) (pa_cons (pe_var hbn vz dz cz) pa_nil s2) s1) df s1 hpl) sw hf)
    (pss_cons (ps_if ptc ptt pss_nil) (pss_one (ps_expr (pe_bm F.plainAttrs_list F.slot_list_append F.type_list_append mt_append (pe_ix ix_seq (pe_var hi vx dx cx) pe_int hs) (pa_cons pe_int pa_nil s3) hbase hfew hline s3 hplain) sx))), fun σ H S fs D r fs' R e p => ?_⟩
  unfold sPoke at e
  split at e
  · rename_i da db qa qb
    split at e
    · rename_i d os hG
      obtain ⟨va, ea, ra⟩ := R.dat a da qa
      obtain ⟨vb, eb, rb⟩ := R.dat b db qb
      have AR : ArgR X.K S H [va, vb] [.dat da, .dat db] := by
        refine ⟨rfl, fun j d' q => ?_, fun j n d' q => ?_, fun j j2 n m d1 d2 q q1 => ?_⟩
        · match j, q with
          | 0, q => cases q; exact ⟨va, rfl, ra⟩
          | 1, q => cases q; exact ⟨vb, rfl, rb⟩
          | j + 2, q => simp at q
        · match j, q with
          | 0, q => cases q
          | 1, q => cases q
          | j + 2, q => simp at q
        · match j, q1 with
          | 0, q => cases q
          | 1, q => cases q
          | j + 2, q => simp at q
      have noBx : ∀ l, ¬ Bx [va, vb] [.dat da, .dat db] l := fun l ⟨j, n, d', q, _⟩ => by
        match j, q with
        | 0, q => cases q
        | 1, q => cases q
        | j + 2, q => simp at q
      refine ⟨va, ea, vb, eb, S, _, _, _, R.sub, AR, hG, fun H1 S1 sub1 st1 _ v rv nv => ?_⟩
      have st1' : Stp (fun _ => False) (fun _ => False) H S H1 S1 := st1.weak (fun l h => noBx l h) fun _ h => h
      have R1 := (R.grown st1' sub1).putD i (show Rp X.K S1 v d from rv)
      obtain ⟨l, p0, xs, ys, rfl, hT, hp0, hS1, hyl⟩ := nv
      split at e
      · rename_i fs1 hc
        refine sc _ H1 S1 _ _ _ fs1 R1 hc fun H2 S2 R2 st2 sh2 b' hb' => ?_
        cases hb'
        show tt _ _ H2
        split at e
        · rename_i fr de fs2 hg'
          cases e
          refine st _ H2 S2 fs1 _ _ _ R2 hg' fun σ' H' S' R' gr => ?_
          exact p σ' H' S' R' ((st1.grow.trans st2.grow).trans gr)
        · cases e
      · rename_i fs1 hc
        refine sc _ H1 S1 _ _ _ fs1 R1 hc fun H2 S2 R2 st2 sh2 b' hb' => ?_
        cases hb'
        have epf := hpure _ _ _ hc
        subst epf
        split at e
        · rename_i hall
          cases e
          have sub12 : Same S1 H2 := st2.grow.trans R2.sub
          have hH2 : H2 p0 = some (.lst ys) := sub12 _ _ hS1
          have hlen : i < σ.length := by rw [R.len]; exact hall.2
          refine ⟨_, List.getElem?_set_self hlen, .inr (.inl ⟨l, _, 0, .ref p0, rfl, rfl, Same.seqT sub12 hT, by simp [atI, ixN], .inl ⟨rfl, _, SqL.of hH2⟩, p0, ys, .int zi, rfl, rfl, hH2, hyl, ?_⟩)⟩
          exact p _ _ S (rel_poke R st1' R2 st2.grow hp0 hH2 hall.1) (Same.refl _)
        · cases e
      · cases e
    · cases e
  · cases e
end
end Fx

namespace Fx.L
open PySem PySem.Spec PyProof.Rows L2
noncomputable section
abbrev g_MOST_STEPS : D := .int 200
def d_p_divisor : Fn := mkFn 2 2 (sCons (sWhile (fB (fBin hNe (fVar 1) (fVal (.int 0)))) (sPar 0 1 (dCons (fVar 1) (dCons (fBin hMod (fVar 0) (fVar 1)) dNil))))
  (sRet (fNm hAbs (fCons (fVar 0) fNil))))
def d_p_sign_of : Fn := mkFn 2 5 (sCons (sUnp (fD (fVar 1)) (kTup 3 (kCons (kName 2) (kCons (kName 3) (kCons (kName 4) kNil)))))
  (sCons (sIf (fAnd (fB (fBin hEq (fVar 2) (fVal (.int 0)))) (fB (fBin hEq (fVar 3) (fVal (.int 0))))) (sRet (fVal (.int 0))) sNil)
  (sCons (sIf (fAnd (fB (fBin hGe (fVar 2) (fVal (.int 0)))) (fB (fBin hGe (fVar 3) (fVal (.int 0))))) (sRet (fVal (.int 1))) sNil)
  (sCons (sIf (fAnd (fB (fBin hLe (fVar 2) (fVal (.int 0)))) (fB (fBin hLe (fVar 3) (fVal (.int 0))))) (sRet (fUn hNeg (fVal (.int 1)))) sNil)
  (sCons (sIf (fB (fBin hEq (fBin hGt (fVar 2) (fVal (.int 0))) (fBin hGt (fBin hMulL (fVar 2) (fVar 2)) (fBin hMulL (fBin hMulL (fVar 3) (fVar 3)) (fVar 0))))) (sRet (fVal (.int 1))) sNil)
  (sRet (fUn hNeg (fVal (.int 1)))))))))
def d_p_look_at_count : Fn := mkFn 3 3 (sIf (fOr (fNot (fB (fUn (hIsi "int") (fVar 0)))) (fOr (fB (fUn (hIsi "bool") (fVar 0))) (fNot (fB (fChain hLe hLe (fVar 1) (fVar 0) (fVar 2)))))) (sRaise "NoNumber") sNil)
def d_p_is_even : Fn := mkFn 1 4 (sCons (sUnp (fD (fVar 0)) (kTup 3 (kCons (kName 1) (kCons (kName 2) (kCons (kName 3) kNil)))))
  (sRet (fBin hEq (fBin hIx (fVar 2) (fUn hNeg (fVal (.int 1)))) (fBin hIx (fVar 2) (fBin hIx (fVar 3) (fUn hNeg (fVal (.int 1))))))))
def d_p_put_behind : Fn := mkFn 3 6 (sCons (sSet 3 (fLc [5] (fiS (fD (fVar 0))) (kName 5) (fB (fBin hNe (fVar 5) (fVar 1))) (fVar 5)))
  (sCons (sSet 4 (fBin hAdd (fIndex (fVar 3) (fVar 2)) (fVal (.int 1))))
  (sRet (fBin hAdd (fBin hAdd (fSl (fVar 3) oNone (oSome (fVar 4))) (fLst (dCons (fVar 1) dNil))) (fSl (fVar 3) (oSome (fVar 4)) oNone)))))
def d_p_named_anew : Fn := mkFn 4 5 (sRet (fTup (dCons (fVar 0) (dCons (fNm hTuple (fCons (fLc [4] (fiS (fD (fVar 3))) (kName 4) tYesF (fBin hIx (fVar 1) (fVar 4))) fNil)) (dCons (fNm hTuple (fCons (fLc [4] (fiS (fD (fVar 2))) (kName 4) tYesF (fIndex (fVar 3) (fVar 4))) fNil)) dNil)))))
def d_cell : Fn := mkFn 2 2 (sCons (sIf (fB (fBin hLt (fVar 1) (fNm hLen (fCons (fVar 0) fNil)))) (sRet (fBin hIx (fVar 0) (fVar 1))) sNil)
  (sRet (fBin hAdd (fBin hMulL (fVal (.int 6151)) (fVar 1)) (fVal (.int 29)))))
def d_mix : Fn := mkFn 2 3 (sCons (sSet 2 (fBin hAdd (fBin hMulL (fBin hAdd (fVar 0) (fVal (.int 1))) (fVal (.int 40692))) (fBin hMulL (fVal (.int 104729)) (fVar 1))))
  (sCons (sSet 2 (fBin hAdd (fBin hMod (fBin hMulL (fVar 2) (fVar 2)) (fVal (.int 2147483399))) (fVar 1)))
  (sRet (fBin hMod (fBin hMulL (fVar 2) (fBin hAdd (fVar 2) (fVal (.int 31)))) (fVal (.int 2147483563))))))
def d_take : Fn := mkFn 2 4 (sCons (sUnp (fD (fNm hDivmod (fCons (fBin hIx (fVar 0) (fVal (.int 0))) (fCons (fVar 1) fNil)))) (kTup 2 (kCons (kName 2) (kCons (kName 3) kNil))))
  (sCons (slOk 0 (sStore 0 (fVar 2) (fVal (.int 0))))
  (sRet (fVar 3))))
def d_fit : Fn := mkFn 3 5 (sCons (sPar 3 4 (dCons (fNm hAbs (fCons (fVar 0) fNil)) (dCons (fNm hAbs (fCons (fVar 1) fNil)) dNil)))
  (sCons (sWhile (fB (fBin hGt (fVar 4) (fVal (.int 0)))) (sPar 3 4 (dCons (fVar 4) (dCons (fBin hMod (fVar 3) (fVar 4)) dNil))))
  (sCons (sSet 4 (fVar 2))
  (sCons (sWhile (fB (fBin hGt (fVar 4) (fVal (.int 0)))) (sPar 3 4 (dCons (fVar 4) (dCons (fBin hMod (fVar 3) (fVar 4)) dNil))))
  (sRet (fTup (dCons (fBin hFdiv (fVar 0) (fVar 3)) (dCons (fBin hFdiv (fVar 1) (fVar 3)) (dCons (fBin hFdiv (fVar 2) (fVar 3)) dNil)))))))))
def kd_kind : Cls → Option Str := fun c => if c = "NoNumber" then some "number" else if c = "NoStep" then some "step" else none
def d_p_lowest : Fn := mkFn 3 4 (sCons (sSet 3 (fCall d_p_divisor (aCons (fCall d_p_divisor (aCons (fVar 0) (aCons (fVar 1) aNil))) (aCons (fVar 2) aNil))))
  (sCons (sIf (fB (fBin hLt (fVar 2) (fVal (.int 0)))) (sSet 3 (fBin hSub (fVal (.int 0)) (fVar 3))) sNil)
  (sRet (fTup (dCons (fBin hFdiv (fVar 0) (fVar 3)) (dCons (fBin hFdiv (fVar 1) (fVar 3)) (dCons (fBin hFdiv (fVar 2) (fVar 3)) dNil)))))))
def d_box : Fn := mkFn 2 5 (sCons (sSet 2 (fCall d_cell (aCons (fVar 0) (aCons (fVar 1) aNil))))
  (sCons (sIf (fB (fBin hEq (fBin hMod (fVar 2) (fVal (.int 2))) (fVal (.int 0)))) (sRet (fLst (dCons (fBin hFdiv (fVar 2) (fVal (.int 2))) dNil))) sNil)
  (sCons (sSet 3 (fVal (.int 0)))
  (sCons (sFor (fiR1 (dCons (fVal (.int 24)) dNil)) (kName 4) (sSet 3 (fBin hAdd (fBin hMulL (fVar 3) (fVal (.int 2147483647))) (fCall d_mix (aCons (fVar 2) (aCons (fVar 4) aNil))))))
  (sRet (fLst (dCons (fVar 3) dNil)))))))
def d_plus : Fn := mkFn 2 8 (sCons (sUnp (fD (fVar 0)) (kTup 3 (kCons (kName 2) (kCons (kName 3) (kCons (kName 4) kNil)))))
  (sCons (sUnp (fD (fVar 1)) (kTup 3 (kCons (kName 5) (kCons (kName 6) (kCons (kName 7) kNil)))))
  (sRet (fCall d_fit (aCons (fBin hAdd (fBin hMulL (fVar 2) (fVar 7)) (fBin hMulL (fVar 5) (fVar 4))) (aCons (fBin hAdd (fBin hMulL (fVar 3) (fVar 7)) (fBin hMulL (fVar 6) (fVar 4))) (aCons (fBin hMulL (fVar 4) (fVar 7)) aNil)))))))
def d_p_plus : Fn := mkFn 3 9 (sCons (sUnp (fD (fVar 1)) (kTup 3 (kCons (kName 3) (kCons (kName 4) (kCons (kName 5) kNil)))))
  (sCons (sUnp (fD (fVar 2)) (kTup 3 (kCons (kName 6) (kCons (kName 7) (kCons (kName 8) kNil)))))
  (sRet (fCall d_p_lowest (aCons (fBin hAdd (fBin hMulL (fVar 3) (fVar 8)) (fBin hMulL (fVar 6) (fVar 5))) (aCons (fBin hAdd (fBin hMulL (fVar 4) (fVar 8)) (fBin hMulL (fVar 7) (fVar 5))) (aCons (fBin hMulL (fVar 5) (fVar 8)) aNil)))))))
def d_minus : Fn := mkFn 2 2 (sRet (fCall d_plus (aCons (fVar 0) (aCons (fTup (dCons (fBin hSub (fVal (.int 0)) (fBin hIx (fVar 1) (fVal (.int 0)))) (dCons (fBin hSub (fVal (.int 0)) (fBin hIx (fVar 1) (fVal (.int 1)))) (dCons (fBin hIx (fVar 1) (fVal (.int 2))) dNil)))) aNil))))
def d_p_minus : Fn := mkFn 3 6 (sCons (sUnp (fD (fVar 2)) (kTup 3 (kCons (kName 3) (kCons (kName 4) (kCons (kName 5) kNil)))))
  (sRet (fCall d_p_plus (aCons (fVar 0) (aCons (fVar 1) (aCons (fTup (dCons (fBin hSub (fVal (.int 0)) (fVar 3)) (dCons (fBin hSub (fVal (.int 0)) (fVar 4)) (dCons (fVar 5) dNil)))) aNil))))))
def d_less : Fn := mkFn 3 6 (sCons (sUnp (fD (fCall d_minus (aCons (fVar 1) (aCons (fVar 2) aNil)))) (kTup 3 (kCons (kName 3) (kCons (kName 4) (kCons (kName 5) kNil)))))
  (sCons (sIf (fAnd (fB (fBin hGe (fVar 3) (fVal (.int 0)))) (fB (fBin hGe (fVar 4) (fVal (.int 0))))) (sRet (fVal (.bool false))) sNil)
  (sCons (sIf (fAnd (fB (fBin hLe (fVar 3) (fVal (.int 0)))) (fB (fBin hLe (fVar 4) (fVal (.int 0))))) (sRet (fVal (.bool true))) sNil)
  (sCons (sIf (fB (fBin hLt (fVar 3) (fVal (.int 0)))) (sRet (fBin hGt (fBin hMulL (fVar 3) (fVar 3)) (fBin hMulL (fBin hMulL (fVar 4) (fVar 4)) (fVar 0)))) sNil)
  (sRet (fBin hLt (fBin hMulL (fVar 3) (fVar 3)) (fBin hMulL (fBin hMulL (fVar 4) (fVar 4)) (fVar 0))))))))
def d_p_less : Fn := mkFn 3 3 (sRet (fBin hLt (fCall d_p_sign_of (aCons (fVar 0) (aCons (fCall d_p_minus (aCons (fVar 0) (aCons (fVar 1) (aCons (fVar 2) aNil)))) aNil))) (fVal (.int 0))))
def d_long : Fn := mkFn 2 3 (sCons (sIf (fB (fBin hEq (fVar 1) (fVal (.int 0)))) (sRet (fCall d_fit (aCons (fBin hAdd (fVal (.int 1)) (fCall d_take (aBoxN 0 (aCons (fVal (.int 9)) aNil)))) (aCons (fVal (.int 0)) (aCons (fBin hAdd (fVal (.int 1)) (fCall d_take (aBoxN 0 (aCons (fVal (.int 3)) aNil)))) aNil))))) sNil)
  (sCons (sSet 2 (fCall d_fit (aCons (fBin hSub (fCall d_take (aBoxN 0 (aCons (fVal (.int 12)) aNil))) (fVal (.int 3))) (aCons (fBin hSub (fCall d_take (aBoxN 0 (aCons (fVal (.int 7)) aNil))) (fVal (.int 2))) (aCons (fBin hAdd (fVal (.int 1)) (fCall d_take (aBoxN 0 (aCons (fVal (.int 2)) aNil)))) aNil)))))
  (sCons (sIf (fB (fCall d_less (aCons (fVar 1) (aCons (fVar 2) (aCons (fTup (dCons (fVal (.int 0)) (dCons (fVal (.int 0)) (dCons (fVal (.int 1)) dNil)))) aNil))))) (sRet (fTup (dCons (fBin hSub (fVal (.int 0)) (fBin hIx (fVar 2) (fVal (.int 0)))) (dCons (fBin hSub (fVal (.int 0)) (fBin hIx (fVar 2) (fVal (.int 1)))) (dCons (fBin hIx (fVar 2) (fVal (.int 2))) dNil))))) sNil)
  (sRet (fBin hIx (fLst (dCons (fVar 2) (dCons (fTup (dCons (fVal (.int 1)) (dCons (fVal (.int 0)) (dCons (fVal (.int 1)) dNil)))) dNil))) (fNm hInt1 (fCons (fBin hEq (fVar 2) (fTup (dCons (fVal (.int 0)) (dCons (fVal (.int 0)) (dCons (fVal (.int 1)) dNil))))) fNil)))))))
def d_lesser : Fn := mkFn 1 11 (sCons (sUnp (fD (fVar 0)) (kTup 3 (kCons (kName 1) (kCons (kName 2) (kCons (kName 3) kNil)))))
  (sCons (sSet 4 (fBin hSub (fNm hLen (fCons (fVar 2) fNil)) (fVal (.int 1))))
  (sCons (sSet 5 (fBin hIx (fVar 3) (fUn hNeg (fVal (.int 1)))))
  (sCons (sIf (fB (fBin hEq (fBin hIx (fVar 2) (fVar 4)) (fBin hIx (fVar 2) (fVar 5)))) (sRet (fVal .none)) sNil)
  (sCons (sSet 6 (fNm hList (fCons (fVar 2) fNil)))
  (sCons (sSet 7 (fUn hLR1 (fNm hLen (fCons (fVar 2) fNil))))
  (sCons (sSet 8 (fNm hList (fCons (fVar 3) fNil)))
  (sCons (sSet 9 (fNm hInt1 (fCons (fCall d_less (aCons (fVar 1) (aCons (fBin hIx (fVar 2) (fVar 4)) (aCons (fBin hIx (fVar 2) (fVar 5)) aNil)))) fNil)))
  (sCons (sIf (fB (fBin hEq (fVar 9) (fVal (.int 0)))) (sCons (slOk 6 (sStore 6 (fCall d_minus (aCons (fBin hIx (fVar 2) (fVar 4)) (aCons (fBin hIx (fVar 2) (fVar 5)) aNil))) (fVar 4)))
  (sCons (sDrop (fMt 8 hPop dNil))
  (sDrop (fMt 8 hIns (dCons (fBin hAdd (fIndex (fVar 8) (fVar 4)) (fVal (.int 1))) (dCons (fVar 5) dNil)))))) (sCons (slOk 6 (sStore 6 (fCall d_minus (aCons (fBin hIx (fVar 2) (fVar 5)) (aCons (fBin hIx (fVar 2) (fVar 4)) aNil))) (fVar 5)))
  (sCons (sDrop (fMt 7 hPop dNil))
  (sDrop (fMt 7 hIns (dCons (fBin hAdd (fIndex (fVar 7) (fVar 5)) (fVal (.int 1))) (dCons (fVar 4) dNil)))))))
  (sRet (fTup (dCons (fVar 9) (dCons (fTup (dCons (fVar 1) (dCons (fNm hTuple (fCons (fLc [10] (fiS (fD (fVar 7))) (kName 10) tYesF (fBin hIx (fVar 6) (fVar 10))) fNil)) (dCons (fNm hTuple (fCons (fLc [10] (fiS (fD (fVar 8))) (kName 10) tYesF (fIndex (fVar 7) (fVar 10))) fNil)) dNil)))) dNil)))))))))))))
def d_p_step_rows : Fn := mkFn 1 8 (sCons (sIf (fB (fCall d_p_is_even (aCons (fVar 0) aNil))) (sRaise "NoStep") sNil)
  (sCons (sUnp (fD (fVar 0)) (kTup 3 (kCons (kName 1) (kCons (kName 2) (kCons (kName 3) kNil)))))
  (sCons (sSet 4 (fBin hSub (fNm hLen (fCons (fVar 2) fNil)) (fVal (.int 1))))
  (sCons (sSet 5 (fBin hIx (fVar 3) (fUn hNeg (fVal (.int 1)))))
  (sCons (sSet 6 (fUn hLR1 (fNm hLen (fCons (fVar 2) fNil))))
  (sCons (sSet 7 (fNm hList (fCons (fVar 2) fNil)))
  (sCons (sIf (fB (fCall d_p_less (aCons (fVar 1) (aCons (fBin hIx (fVar 2) (fVar 5)) (aCons (fBin hIx (fVar 2) (fVar 4)) aNil))))) (sCons (slOk 7 (sStore 7 (fCall d_p_minus (aCons (fVar 1) (aCons (fBin hIx (fVar 2) (fVar 4)) (aCons (fBin hIx (fVar 2) (fVar 5)) aNil)))) (fVar 4)))
  (sRet (fTup (dCons (fVal (.int 0)) (dCons (fVar 7) (dCons (fCall d_p_put_behind (aCons (fVar 3) (aCons (fVar 5) (aCons (fVar 4) aNil)))) (dCons (fVar 6) dNil))))))) sNil)
  (sCons (slOk 7 (sStore 7 (fCall d_p_minus (aCons (fVar 1) (aCons (fBin hIx (fVar 2) (fVar 5)) (aCons (fBin hIx (fVar 2) (fVar 4)) aNil)))) (fVar 5)))
  (sRet (fTup (dCons (fVal (.int 1)) (dCons (fVar 7) (dCons (fNm hList (fCons (fVar 3) fNil)) (dCons (fCall d_p_put_behind (aCons (fVar 6) (aCons (fVar 4) (aCons (fVar 5) aNil)))) dNil))))))))))))))
def d_change : Fn := mkFn 3 10 (sCons (sSet 3 (fBin hIx (fVar 2) (fCall d_take (aBoxN 0 (aCons (fNm hLen (fCons (fVar 2) fNil)) aNil)))))
  (sCons (sSet 4 (fBin hAdd (fVal (.int 1)) (fCall d_take (aBoxN 0 (aCons (fVar 1) aNil)))))
  (sCons (sSet 5 (fNm hTuple (fCons (fLc [9] (fiR1 (dCons (fVar 4) dNil)) (kName 9) tYesF (fCall d_long (aBoxN 0 (aCons (fVar 3) aNil)))) fNil)))
  (sCons (sSet 6 (fUn hLR1 (fVar 4)))
  (sCons (sSet 7 (fLst dNil))
  (sCons (sSet 8 (fCall d_take (aBoxN 0 (aCons (fVal (.int 4)) aNil))))
  (sCons (sWhile (fB (fBin hNe (fVar 6) (fLst dNil))) (sDrop (fMt 7 hApp (dCons (fMt 6 hPopAt (dCons (fBin hIx (fLst (dCons (fCall d_take (aBoxN 0 (aCons (fNm hLen (fCons (fVar 6) fNil)) aNil))) (dCons (fBin hSub (fNm hLen (fCons (fVar 6) fNil)) (fVal (.int 1))) dNil))) (fNm hInt1 (fCons (fBin hEq (fVar 8) (fVal (.int 0))) fNil))) dNil)) dNil))))
  (sRet (fTup (dCons (fVar 3) (dCons (fVar 5) (dCons (fNm hTuple (fCons (fVar 7) fNil)) dNil))))))))))))
def d_due : Fn := mkFn 2 4 (sCons (sSet 2 (fLst dNil))
  (sCons (sWhile (fB (fBin hLt (fNm hLen (fCons (fVar 2) fNil)) (fVar 1))) (sCons (sSet 3 (fCall d_lesser (aCons (fVar 0) aNil)))
  (sCons (sIf (fB (fBin (hIs false) (fVar 3) (fVal .none))) (sRet (fTup (dCons (fVar 2) (dCons (fVar 0) dNil)))) sNil)
  (sCons (sDrop (fMt 2 hApp (dCons (fBin hIx (fVar 3) (fVal (.int 0))) dNil)))
  (sSet 0 (fBin hIx (fVar 3) (fVal (.int 1))))))))
  (sRet (fTup (dCons (fVar 2) (dCons (fVar 0) dNil))))))
def d_p_step_of : Fn := mkFn 1 5 (sCons (sUnp (fD (fCall d_p_step_rows (aCons (fVar 0) aNil))) (kTup 4 (kCons (kName 1) (kCons (kName 2) (kCons (kName 3) (kCons (kName 4) kNil))))))
  (sRet (fTup (dCons (fVar 1) (dCons (fCall d_p_named_anew (aCons (fBin hIx (fVar 0) (fVal (.int 0))) (aCons (fVar 2) (aCons (fVar 3) (aCons (fVar 4) aNil))))) dNil)))))
def d_p_steps_done : Fn := mkFn 2 4 (sCons (sDrop (fCall d_p_look_at_count (aCons (fVar 1) (aCons (fVal (.int 0)) (aCons (fVal g_MOST_STEPS) aNil)))))
  (sCons (sSet 2 (fLst dNil))
  (sCons (sWhile (fAnd (fB (fBin hLt (fNm hLen (fCons (fVar 2) fNil)) (fVar 1))) (fNot (fB (fCall d_p_is_even (aCons (fVar 0) aNil))))) (sCons (sUnp (fD (fCall d_p_step_of (aCons (fVar 0) aNil))) (kTup 2 (kCons (kName 3) (kCons (kName 0) kNil))))
  (sDrop (fMt 2 hApp (dCons (fVar 3) dNil)))))
  (sRet (fTup (dCons (fVar 2) (dCons (fVar 0) dNil)))))))
def d_p_steps_doneN : Fn := mkFnN 2 4 (sConsN (sDrop (fCall d_p_look_at_count (aCons (fVar 1) (aCons (fVal (.int 0)) (aCons (fVal g_MOST_STEPS) aNil)))))
  (sConsN (sSet 2 (fLst dNil))
  (sConsN (sWhile (fAnd (fB (fBin hLt (fNm hLen (fCons (fVar 2) fNil)) (fVar 1))) (fNot (fB (fCall d_p_is_even (aCons (fVar 0) aNil))))) (sCons (sUnp (fD (fCall d_p_step_of (aCons (fVar 0) aNil))) (kTup 2 (kCons (kName 3) (kCons (kName 0) kNil))))
  (sDrop (fMt 2 hApp (dCons (fVar 3) dNil)))))
  (sRetP 2 0))))
def d_said : Fn := mkFn 2 4 (sCons (sSet 2 (fVal (.str "told")))
  (sCons (sTryK 3 2 kd_kind (sDrop (fCall d_p_steps_done (aCons (fVar 0) (aCons (fVar 1) aNil)))))
  (sRet (fVar 2))))
def d_law : Fn := mkFn 1 9 (sCons (sFor (fiR1 (dCons (fNm hMax2 (fCons (fVal (.int 1)) (fCons (fNm hMin2 (fCons (fNm hLen (fCons (fVar 0) fNil)) (fCons (fVal (.int 4)) fNil))) fNil))) dNil)) (kName 1) (sCons (sSet 2 (fCall d_box (aCons (fVar 0) (aCons (fVar 1) aNil))))
  (sCons (sSet 3 (fCall d_change (aBoxN 2 (aCons (fVal (.int 6)) (aCons (fLst (dCons (fVal (.int 0)) (dCons (fVal (.int 0)) (dCons (fVal (.int 0)) (dCons (fVal (.int 2)) (dCons (fVal (.int 3)) (dCons (fVal (.int 5)) (dCons (fVal (.int 7)) dNil)))))))) aNil)))))
  (sCons (sFor (fiS (fD (fLst (dCons (fCall d_take (aBoxN 2 (aCons (fVal (.int 41)) aNil))) (dCons (fVal (.int 0)) (dCons (fBin hIx (fLst (dCons (fVal (.int 200)) (dCons (fVal (.int 60)) dNil))) (fNm hInt1 (fCons (fBin hGt (fBin hIx (fVar 3) (fVal (.int 0))) (fVal (.int 0))) fNil))) dNil)))))) (kName 4) (sCons (sSet 5 (fCall d_due (aCons (fVar 3) (aCons (fVar 4) aNil))))
  (sFor (fiR1 (dCons (fVal (.int 2)) dNil)) (kName 6) (sPoke 7 3 4 d_p_steps_doneN (fOr (fNot (fB (fUn (hIsi "tuple") (fVar 7)))) (fOr (fB (fBin hNe (fVar 7) (fVar 5))) (fNot (fB (fUn (hIsi "list") (fBin hIx (fVar 7) (fVal (.int 0)))))))) (sRet (fVal (.bool false)))))))
  (sCons (sSet 8 (fBin hIx (fLst (dCons (fUn hNeg (fVal (.int 1))) (dCons (fVal (.int 201)) (dCons (fVal (.bool true)) (dCons (fVal .none) (dCons (fVal (.str "3")) (dCons (fTup (dCons (fVal (.int 3)) dNil)) (dCons (fBin hPow (fVal (.int 10)) (fVal (.int 39))) (dCons fDnew dNil))))))))) (fCall d_take (aBoxN 2 (aCons (fVal (.int 8)) aNil)))))
  (sIf (fOr (fB (fBin hNe (fCall d_said (aCons (fVar 3) (aCons (fVar 8) aNil))) (fVal (.str "number")))) (fB (fBin hNe (fCall d_said (aCons (fVar 3) (aCons (fVal (.bool false)) aNil))) (fVal (.str "number"))))) (sRet (fVal (.bool false))) sNil))))))
  (sRet (fVal (.bool true))))
end
end Fx.L

namespace Fx.L
open PySem PySem.Spec PyProof.Rows L2
def topS (i : Nat) : Stmt := PySem.Challenge.pw_cutexchange_k62_steps_done.main.body.getD i (.Pass ⟨0, 0, 0, 0⟩)
abbrev s_p_divisor : Stmt := topS 10
theorem sc_p_divisor : FnScope ["one", "other"] ["one", "other"] (defScope s_p_divisor) := ⟨rfl, rfl, rfl, by decide +kernel, rfl, by decide +kernel, by decide +kernel⟩
abbrev s_p_sign_of : Stmt := topS 14
theorem sc_p_sign_of : FnScope ["root", "one", "a", "b", "c"] ["root", "one"] (defScope s_p_sign_of) := ⟨rfl, rfl, rfl, by decide +kernel, rfl, by decide +kernel, by decide +kernel⟩
abbrev s_p_look_at_count : Stmt := topS 17
theorem sc_p_look_at_count : FnScope ["thing", "least", "most"] ["thing", "least", "most"] (defScope s_p_look_at_count) := ⟨rfl, rfl, rfl, by decide +kernel, rfl, by decide +kernel, by decide +kernel⟩
abbrev s_p_is_even : Stmt := topS 20
theorem sc_p_is_even : FnScope ["change", "root", "longs", "order"] ["change"] (defScope s_p_is_even) := ⟨rfl, rfl, rfl, by decide +kernel, rfl, by decide +kernel, by decide +kernel⟩
abbrev s_p_put_behind : Stmt := topS 21
theorem sc_p_put_behind : FnScope ["row", "thing", "other", "left", "at", "one"] ["row", "thing", "other"] (defScope s_p_put_behind) := ⟨rfl, rfl, rfl, by decide +kernel, rfl, by decide +kernel, by decide +kernel⟩
abbrev s_p_named_anew : Stmt := topS 22
theorem sc_p_named_anew : FnScope ["root", "longs", "order", "row", "old"] ["root", "longs", "order", "row"] (defScope s_p_named_anew) := ⟨rfl, rfl, rfl, by decide +kernel, rfl, by decide +kernel, by decide +kernel⟩
abbrev s_cell : Stmt := topS 27
theorem sc_cell : FnScope ["_law_script", "_law_k"] ["_law_script", "_law_k"] (defScope s_cell) := ⟨rfl, rfl, rfl, by decide +kernel, rfl, by decide +kernel, by decide +kernel⟩
abbrev s_mix : Stmt := topS 28
theorem sc_mix : FnScope ["_law_cell_here", "_law_k", "_law_number"] ["_law_cell_here", "_law_k"] (defScope s_mix) := ⟨rfl, rfl, rfl, by decide +kernel, rfl, by decide +kernel, by decide +kernel⟩
abbrev s_take : Stmt := topS 30
theorem sc_take : FnScope ["_law_box_here", "_law_many", "_law_left", "_law_digit"] ["_law_box_here", "_law_many"] (defScope s_take) := ⟨rfl, rfl, rfl, by decide +kernel, rfl, by decide +kernel, by decide +kernel⟩
abbrev s_fit : Stmt := topS 31
theorem sc_fit : FnScope ["_law_a", "_law_b", "_law_c", "_law_one", "_law_other"] ["_law_a", "_law_b", "_law_c"] (defScope s_fit) := ⟨rfl, rfl, rfl, by decide +kernel, rfl, by decide +kernel, by decide +kernel⟩
abbrev s_kind : Stmt := topS 38
theorem sc_kind : FnScope ["_law_e", "_law_kinds"] ["_law_e"] (defScope s_kind) := ⟨rfl, rfl, rfl, by decide +kernel, rfl, by decide +kernel, by decide +kernel⟩
theorem kd_cases_kind {q : Prop} {c : Cls} {w : Str} (h : kd_kind c = some w) (h0 : c = "NoNumber" → q) (h1 : c = "NoStep" → q) : q := by
  unfold kd_kind at h
  by_cases e0 : c = "NoNumber"
  · exact h0 e0
  rw [if_neg e0] at h
  by_cases e1 : c = "NoStep"
  · exact h1 e1
  rw [if_neg e1] at h
  cases h
theorem kd_word_kind_NoNumber {w : Str} (h : kd_kind "NoNumber" = some w) : w = "number" := by
  have e : kd_kind "NoNumber" = some "number" := by decide +kernel
  exact Option.some.inj (h.symm.trans e)
theorem kd_word_kind_NoStep {w : Str} (h : kd_kind "NoStep" = some w) : w = "step" := by
  have e : kd_kind "NoStep" = some "step" := by decide +kernel
  exact Option.some.inj (h.symm.trans e)
abbrev s_p_lowest : Stmt := topS 11
theorem sc_p_lowest : FnScope ["a", "b", "c", "by"] ["a", "b", "c"] (defScope s_p_lowest) := ⟨rfl, rfl, rfl, by decide +kernel, rfl, by decide +kernel, by decide +kernel⟩
abbrev s_box : Stmt := topS 29
theorem sc_box : FnScope ["_law_script", "_law_k", "_law_here", "_law_number", "_law_j"] ["_law_script", "_law_k"] (defScope s_box) := ⟨rfl, rfl, rfl, by decide +kernel, rfl, by decide +kernel, by decide +kernel⟩
abbrev s_plus : Stmt := topS 32
theorem sc_plus : FnScope ["_law_one", "_law_other", "_law_a", "_law_b", "_law_c", "_law_d", "_law_e", "_law_f"] ["_law_one", "_law_other"] (defScope s_plus) := ⟨rfl, rfl, rfl, by decide +kernel, rfl, by decide +kernel, by decide +kernel⟩
abbrev s_p_plus : Stmt := topS 12
theorem sc_p_plus : FnScope ["root", "one", "other", "a", "b", "c", "d", "e", "f"] ["root", "one", "other"] (defScope s_p_plus) := ⟨rfl, rfl, rfl, by decide +kernel, rfl, by decide +kernel, by decide +kernel⟩
abbrev s_minus : Stmt := topS 33
theorem sc_minus : FnScope ["_law_one", "_law_other"] ["_law_one", "_law_other"] (defScope s_minus) := ⟨rfl, rfl, rfl, by decide +kernel, rfl, by decide +kernel, by decide +kernel⟩
abbrev s_p_minus : Stmt := topS 13
theorem sc_p_minus : FnScope ["root", "one", "other", "a", "b", "c"] ["root", "one", "other"] (defScope s_p_minus) := ⟨rfl, rfl, rfl, by decide +kernel, rfl, by decide +kernel, by decide +kernel⟩
abbrev s_less : Stmt := topS 34
theorem sc_less : FnScope ["_law_root", "_law_one", "_law_other", "_law_a", "_law_b", "_law_c"] ["_law_root", "_law_one", "_law_other"] (defScope s_less) := ⟨rfl, rfl, rfl, by decide +kernel, rfl, by decide +kernel, by decide +kernel⟩
abbrev s_p_less : Stmt := topS 15
theorem sc_p_less : FnScope ["root", "one", "other"] ["root", "one", "other"] (defScope s_p_less) := ⟨rfl, rfl, rfl, by decide +kernel, rfl, by decide +kernel, by decide +kernel⟩
abbrev s_long : Stmt := topS 35
theorem sc_long : FnScope ["_law_box_here", "_law_root", "_law_found"] ["_law_box_here", "_law_root"] (defScope s_long) := ⟨rfl, rfl, rfl, by decide +kernel, rfl, by decide +kernel, by decide +kernel⟩
abbrev s_lesser : Stmt := topS 37
theorem sc_lesser : FnScope ["_law_change_here", "_law_root", "_law_longs", "_law_order", "_law_top", "_law_bottom", "_law_new", "_law_ahead", "_law_rear", "_law_sort", "_law_old"] ["_law_change_here"] (defScope s_lesser) := ⟨rfl, rfl, rfl, by decide +kernel, rfl, by decide +kernel, by decide +kernel⟩
abbrev s_p_step_rows : Stmt := topS 23
theorem sc_p_step_rows : FnScope ["change", "root", "longs", "order", "top", "bottom", "row", "new"] ["change"] (defScope s_p_step_rows) := ⟨rfl, rfl, rfl, by decide +kernel, rfl, by decide +kernel, by decide +kernel⟩
abbrev s_change : Stmt := topS 36
theorem sc_change : FnScope ["_law_box_here", "_law_most", "_law_roots", "_law_root", "_law_many", "_law_longs", "_law_left", "_law_order", "_law_way", "_law_piece"] ["_law_box_here", "_law_most", "_law_roots"] (defScope s_change) := ⟨rfl, rfl, rfl, by decide +kernel, rfl, by decide +kernel, by decide +kernel⟩
abbrev s_due : Stmt := topS 39
theorem sc_due : FnScope ["_law_change_here", "_law_most", "_law_sorts", "_law_step"] ["_law_change_here", "_law_most"] (defScope s_due) := ⟨rfl, rfl, rfl, by decide +kernel, rfl, by decide +kernel, by decide +kernel⟩
abbrev s_p_step_of : Stmt := topS 24
theorem sc_p_step_of : FnScope ["change", "sort", "longs", "order", "row"] ["change"] (defScope s_p_step_of) := ⟨rfl, rfl, rfl, by decide +kernel, rfl, by decide +kernel, by decide +kernel⟩
abbrev s_p_steps_done : Stmt := topS 25
theorem sc_p_steps_done : FnScope ["change", "most", "sorts", "sort"] ["change", "most"] (defScope s_p_steps_done) := ⟨rfl, rfl, rfl, by decide +kernel, rfl, by decide +kernel, by decide +kernel⟩
abbrev s_said : Stmt := topS 40
theorem sc_said : FnScope ["_law_change_here", "_law_thing", "_law_word", "_law_e"] ["_law_change_here", "_law_thing"] (defScope s_said) := ⟨rfl, rfl, rfl, by decide +kernel, rfl, by decide +kernel, by decide +kernel⟩
abbrev s_law : Stmt := topS 41
theorem sc_law : FnScope ["_law_script", "_law_k", "_law_box_here", "_law_change_here", "_law_most", "_law_due_here", "_law_turn", "_law_found", "_law_bad"] ["_law_script"] (defScope s_law) := ⟨rfl, rfl, rfl, by decide +kernel, rfl, by decide +kernel, by decide +kernel⟩
structure Tx (K : PySem.W.Frag) (mg : Str → Option Value) where
  p_divisor : Gd K mg "divisor" s_p_divisor ["one", "other"]
  p_sign_of : Gd K mg "sign_of" s_p_sign_of ["root", "one"]
  p_look_at_count : Gd K mg "look_at_count" s_p_look_at_count ["thing", "least", "most"]
  p_is_even : Gd K mg "is_even" s_p_is_even ["change"]
  p_put_behind : Gd K mg "put_behind" s_p_put_behind ["row", "thing", "other"]
  p_named_anew : Gd K mg "named_anew" s_p_named_anew ["root", "longs", "order", "row"]
  cell : Gd K mg "_law_cell" s_cell ["_law_script", "_law_k"]
  mix : Gd K mg "_law_mix" s_mix ["_law_cell_here", "_law_k"]
  take : Gd K mg "_law_take" s_take ["_law_box_here", "_law_many"]
  fit : Gd K mg "_law_fit" s_fit ["_law_a", "_law_b", "_law_c"]
  kind : Gd K mg "_law_kind" s_kind ["_law_e"]
  p_lowest : Gd K mg "lowest" s_p_lowest ["a", "b", "c"]
  box : Gd K mg "_law_box" s_box ["_law_script", "_law_k"]
  plus : Gd K mg "_law_plus" s_plus ["_law_one", "_law_other"]
  p_plus : Gd K mg "plus" s_p_plus ["root", "one", "other"]
  minus : Gd K mg "_law_minus" s_minus ["_law_one", "_law_other"]
  p_minus : Gd K mg "minus" s_p_minus ["root", "one", "other"]
  less : Gd K mg "_law_less" s_less ["_law_root", "_law_one", "_law_other"]
  p_less : Gd K mg "less" s_p_less ["root", "one", "other"]
  long : Gd K mg "_law_long" s_long ["_law_box_here", "_law_root"]
  lesser : Gd K mg "_law_lesser" s_lesser ["_law_change_here"]
  p_step_rows : Gd K mg "step_rows" s_p_step_rows ["change"]
  change : Gd K mg "_law_change" s_change ["_law_box_here", "_law_most", "_law_roots"]
  due : Gd K mg "_law_due" s_due ["_law_change_here", "_law_most"]
  p_step_of : Gd K mg "step_of" s_p_step_of ["change"]
  p_steps_done : Gd K mg "steps_done" s_p_steps_done ["change", "most"]
  said : Gd K mg "_law_said" s_said ["_law_change_here", "_law_thing"]
  law : Gd K mg "law" s_law ["_law_script"]
  g_MOST_STEPS : Gc K mg "MOST_STEPS" g_MOST_STEPS
  c_NoChange : Cr K mg "NoChange"
  c_NoNumber : Cr K mg "NoNumber"
  c_NoPoint : Cr K mg "NoPoint"
  c_NoStep : Cr K mg "NoStep"
  c_NoWord : Cr K mg "NoWord"
  c_StretchError : Cr K mg "StretchError"
  c_TooMany : Cr K mg "TooMany"
  c_Unlike : Cr K mg "Unlike"
  e_NoNumber : Ec K mg "NoNumber"
  e_NoStep : Ec K mg "NoStep"
  x_NoNumber : ExcC K e_NoNumber.C
  m_NoNumber_StretchError : PySem.W.exmOne K (.ref e_NoNumber.C) (.ref c_StretchError.C) = some true
  i_NoNumber_NoChange : PySem.W.kitOne K (.ref e_NoNumber.C) (.ref c_NoChange.C) = some false
  i_NoNumber_NoNumber : PySem.W.kitOne K (.ref e_NoNumber.C) (.ref c_NoNumber.C) = some true
  i_NoNumber_NoPoint : PySem.W.kitOne K (.ref e_NoNumber.C) (.ref c_NoPoint.C) = some false
  i_NoNumber_NoStep : PySem.W.kitOne K (.ref e_NoNumber.C) (.ref c_NoStep.C) = some false
  i_NoNumber_NoWord : PySem.W.kitOne K (.ref e_NoNumber.C) (.ref c_NoWord.C) = some false
  i_NoNumber_TooMany : PySem.W.kitOne K (.ref e_NoNumber.C) (.ref c_TooMany.C) = some false
  i_NoNumber_Unlike : PySem.W.kitOne K (.ref e_NoNumber.C) (.ref c_Unlike.C) = some false
  x_NoStep : ExcC K e_NoStep.C
  m_NoStep_StretchError : PySem.W.exmOne K (.ref e_NoStep.C) (.ref c_StretchError.C) = some true
  i_NoStep_NoChange : PySem.W.kitOne K (.ref e_NoStep.C) (.ref c_NoChange.C) = some false
  i_NoStep_NoNumber : PySem.W.kitOne K (.ref e_NoStep.C) (.ref c_NoNumber.C) = some false
  i_NoStep_NoPoint : PySem.W.kitOne K (.ref e_NoStep.C) (.ref c_NoPoint.C) = some false
  i_NoStep_NoStep : PySem.W.kitOne K (.ref e_NoStep.C) (.ref c_NoStep.C) = some true
  i_NoStep_NoWord : PySem.W.kitOne K (.ref e_NoStep.C) (.ref c_NoWord.C) = some false
  i_NoStep_TooMany : PySem.W.kitOne K (.ref e_NoStep.C) (.ref c_TooMany.C) = some false
  i_NoStep_Unlike : PySem.W.kitOne K (.ref e_NoStep.C) (.ref c_Unlike.C) = some false
  z_abs : mg "abs" = none
  z_bool : mg "bool" = none
  z_divmod : mg "divmod" = none
  z_int : mg "int" = none
  z_isinstance : mg "isinstance" = none
  z_len : mg "len" = none
  z_list : mg "list" = none
  z_max : mg "max" = none
  z_min : mg "min" = none
  z_range : mg "range" = none
  z_tuple : mg "tuple" = none
section
variable {P : Program} {w : World} {K : PySem.W.Frag} {mg : Str → Option Value} {base : Heap}
theorem ok_p_divisor (T : Tx K mg) : FnS P w K mg base 1 T.p_divisor.f T.p_divisor.fd ["one", "other"] d_p_divisor := by
  unfold d_p_divisor
  exact fn_mk T.p_divisor.fn sc_p_divisor fun cdv A outer s H E J hr => by
    have tk : Takes (cxOf (L2.CX P w) P w K mg base ["one", "other"] "divisor" (defScope s_p_divisor) T.p_divisor.f cdv A outer s H E) (fun cls d _ H' => E cls d H') := takes_of rfl rfl rfl rfl
    have hps : PassesOwn (model P w) (cxOf (L2.CX P w) P w K mg base ["one", "other"] "divisor" (defScope s_p_divisor) T.p_divisor.f cdv A outer s H E).A (cxOf (L2.CX P w) P w K mg base ["one", "other"] "divisor" (defScope s_p_divisor) T.p_divisor.f cdv A outer s H E).env (cxOf (L2.CX P w) P w K mg base ["one", "other"] "divisor" (defScope s_p_divisor) T.p_divisor.f cdv A outer s H E).xe := passes_of rfl
    have hu := hr.units
    exact (fss_cons (fs_while hps (ft_cmp (op_neD hu) op2_ne (nomark _) (fe_var 1) fe_int) (fss_one (fs_par (i := 0) (j := 1) rfl sc_p_divisor.nd (by decide) (fds_cons (fe_var 1) (fds_cons (fe_op op_modN op2_mod (fe_var 0) (fe_var 1)) fds_nil)))))
  (fss_one (fs_ret (fe_callB call_abs opn_abs (by rfl) T.z_abs boot_abs (fa_cons (fe_var 0) fa_nil)))))
theorem ok_p_sign_of (T : Tx K mg) : FnS P w K mg base 1 T.p_sign_of.f T.p_sign_of.fd ["root", "one"] d_p_sign_of := by
  unfold d_p_sign_of
  exact fn_mk T.p_sign_of.fn sc_p_sign_of fun cdv A outer s H E J hr => by
    have tk : Takes (cxOf (L2.CX P w) P w K mg base ["root", "one", "a", "b", "c"] "sign_of" (defScope s_p_sign_of) T.p_sign_of.f cdv A outer s H E) (fun cls d _ H' => E cls d H') := takes_of rfl rfl rfl rfl
    have hps : PassesOwn (model P w) (cxOf (L2.CX P w) P w K mg base ["root", "one", "a", "b", "c"] "sign_of" (defScope s_p_sign_of) T.p_sign_of.f cdv A outer s H E).A (cxOf (L2.CX P w) P w K mg base ["root", "one", "a", "b", "c"] "sign_of" (defScope s_p_sign_of) T.p_sign_of.f cdv A outer s H E).env (cxOf (L2.CX P w) P w K mg base ["root", "one", "a", "b", "c"] "sign_of" (defScope s_p_sign_of) T.p_sign_of.f cdv A outer s H E).xe := passes_of rfl
    have hu := hr.units
    exact (fss_cons (fs_unp (fe_var 1) (fg_tup rfl (fgs_cons (fg_name (i := 2) sc_p_sign_of.nd) (fgs_cons (fg_name (i := 3) sc_p_sign_of.nd) (fgs_cons (fg_name (i := 4) sc_p_sign_of.nd) fgs_nil)))))
  (fss_cons (fs_if (FW.ft (fw_and (ft_cmp (op_eqD hu) op2_eq (nomark _) (fe_var 2) fe_int) (fw_and1 (ft_cmp (op_eqD hu) op2_eq (nomark _) (fe_var 3) fe_int)))) (fss_one (fs_ret fe_int)) fss_nil)
  (fss_cons (fs_if (FW.ft (fw_and (ft_cmp op_ge op2_ge (nomark _) (fe_var 2) fe_int) (fw_and1 (ft_cmp op_ge op2_ge (nomark _) (fe_var 3) fe_int)))) (fss_one (fs_ret fe_int)) fss_nil)
  (fss_cons (fs_if (FW.ft (fw_and (ft_cmp op_le op2_le (nomark _) (fe_var 2) fe_int) (fw_and1 (ft_cmp op_le op2_le (nomark _) (fe_var 3) fe_int)))) (fss_one (fs_ret (fe_un un_neg op1_neg fe_int))) fss_nil)
  (fss_cons (fs_if (ft_cmp (op_eqD hu) op2_eq (nomark _) (fe_cmp op_gt op2_gt (nomark _) (fe_var 2) fe_int) (fe_cmp op_gt op2_gt (nomark _) (fe_op op_mulU op2_mul (fe_var 2) (fe_var 2)) (fe_op op_mulU op2_mul (fe_op op_mulU op2_mul (fe_var 3) (fe_var 3)) (fe_var 0)))) (fss_one (fs_ret fe_int)) fss_nil)
  (fss_one (fs_ret (fe_un un_neg op1_neg fe_int))))))))
theorem ok_p_look_at_count (T : Tx K mg) : FnS P w K mg base 1 T.p_look_at_count.f T.p_look_at_count.fd ["thing", "least", "most"] d_p_look_at_count := by
  unfold d_p_look_at_count
  exact fn_mk T.p_look_at_count.fn sc_p_look_at_count fun cdv A outer s H E J hr => by
    have tk : Takes (cxOf (L2.CX P w) P w K mg base ["thing", "least", "most"] "look_at_count" (defScope s_p_look_at_count) T.p_look_at_count.f cdv A outer s H E) (fun cls d _ H' => E cls d H') := takes_of rfl rfl rfl rfl
    have hps : PassesOwn (model P w) (cxOf (L2.CX P w) P w K mg base ["thing", "least", "most"] "look_at_count" (defScope s_p_look_at_count) T.p_look_at_count.f cdv A outer s H E).A (cxOf (L2.CX P w) P w K mg base ["thing", "least", "most"] "look_at_count" (defScope s_p_look_at_count) T.p_look_at_count.f cdv A outer s H E).env (cxOf (L2.CX P w) P w K mg base ["thing", "least", "most"] "look_at_count" (defScope s_p_look_at_count) T.p_look_at_count.f cdv A outer s H E).xe := passes_of rfl
    skip
    exact (fss_one (fs_if (FW.ft (fw_or (ft_not (ft_val (fe_isi (by rfl) T.z_isinstance (by rfl) T.z_int boot_int (fe_var 0)))) (fw_or (ft_val (fe_isi (by rfl) T.z_isinstance (by rfl) T.z_bool boot_bool (fe_var 0))) (fw_or1 (ft_not (ft_chain op_le op2_le op_le op2_le (fe_var 1) (fe_var 0) (fe_var 2))))))) (fss_one (fs_raise T.e_NoNumber rfl tk (by rfl))) fss_nil))
theorem ok_p_is_even (T : Tx K mg) : FnS P w K mg base 1 T.p_is_even.f T.p_is_even.fd ["change"] d_p_is_even := by
  unfold d_p_is_even
  exact fn_mk T.p_is_even.fn sc_p_is_even fun cdv A outer s H E J hr => by
    have tk : Takes (cxOf (L2.CX P w) P w K mg base ["change", "root", "longs", "order"] "is_even" (defScope s_p_is_even) T.p_is_even.f cdv A outer s H E) (fun cls d _ H' => E cls d H') := takes_of rfl rfl rfl rfl
    have hps : PassesOwn (model P w) (cxOf (L2.CX P w) P w K mg base ["change", "root", "longs", "order"] "is_even" (defScope s_p_is_even) T.p_is_even.f cdv A outer s H E).A (cxOf (L2.CX P w) P w K mg base ["change", "root", "longs", "order"] "is_even" (defScope s_p_is_even) T.p_is_even.f cdv A outer s H E).env (cxOf (L2.CX P w) P w K mg base ["change", "root", "longs", "order"] "is_even" (defScope s_p_is_even) T.p_is_even.f cdv A outer s H E).xe := passes_of rfl
    have hu := hr.units
    exact (fss_cons (fs_unp (fe_var 0) (fg_tup rfl (fgs_cons (fg_name (i := 1) sc_p_is_even.nd) (fgs_cons (fg_name (i := 2) sc_p_is_even.nd) (fgs_cons (fg_name (i := 3) sc_p_is_even.nd) fgs_nil)))))
  (fss_one (fs_ret (fe_cmp (op_eqD hu) op2_eq (nomark _) (fe_ix (fe_var 2) (fe_un un_neg op1_neg fe_int)) (fe_ix (fe_var 2) (fe_ix (fe_var 3) (fe_un un_neg op1_neg fe_int)))))))
theorem ok_p_put_behind (T : Tx K mg) : FnS P w K mg base 1 T.p_put_behind.f T.p_put_behind.fd ["row", "thing", "other"] d_p_put_behind := by
  unfold d_p_put_behind
  exact fn_mk T.p_put_behind.fn sc_p_put_behind fun cdv A outer s H E J hr => by
    have tk : Takes (cxOf (L2.CX P w) P w K mg base ["row", "thing", "other", "left", "at", "one"] "put_behind" (defScope s_p_put_behind) T.p_put_behind.f cdv A outer s H E) (fun cls d _ H' => E cls d H') := takes_of rfl rfl rfl rfl
    have hps : PassesOwn (model P w) (cxOf (L2.CX P w) P w K mg base ["row", "thing", "other", "left", "at", "one"] "put_behind" (defScope s_p_put_behind) T.p_put_behind.f cdv A outer s H E).A (cxOf (L2.CX P w) P w K mg base ["row", "thing", "other", "left", "at", "one"] "put_behind" (defScope s_p_put_behind) T.p_put_behind.f cdv A outer s H E).env (cxOf (L2.CX P w) P w K mg base ["row", "thing", "other", "left", "at", "one"] "put_behind" (defScope s_p_put_behind) T.p_put_behind.f cdv A outer s H E).xe := passes_of rfl
    have hu65 := Room.u65 hr
    have hu := hr.units
    exact (fss_cons (fs_setLc (i := 3) rfl sc_p_put_behind.nd (fi_seq (fe_var 0)) (blkOk_by (own := [("one", 5)]) (by kernel_rfl)) (fun _ _ _ _ _ => (fg_name (i := 5) sc_p_put_behind.nd)) (fun _ _ _ _ _ => (fts_one (ft_cmp (op_neD hu) op2_ne (nomark _) (fe_var 5) (fe_var 1)))) (fun _ _ _ _ _ => (fe_var 5)) (sw_true rfl rfl rfl (by decide +kernel)))
  (fss_cons (fs_set (i := 4) sc_p_put_behind.nd (fe_op op_addU op2_add (fe_index hu65 (fe_var 3) (fe_var 2)) fe_int))
  (fss_one (fs_ret (fe_op op_addU op2_add (fe_op op_addU op2_add (fe_slice (fe_var 3) fo_none (fo_some (fe_var 4))) (fe_lst (fds_cons (fe_var 1) fds_nil))) (fe_slice (fe_var 3) (fo_some (fe_var 4)) fo_none))))))
theorem ok_p_named_anew (T : Tx K mg) : FnS P w K mg base 1 T.p_named_anew.f T.p_named_anew.fd ["root", "longs", "order", "row"] d_p_named_anew := by
  unfold d_p_named_anew
  exact fn_mk T.p_named_anew.fn sc_p_named_anew fun cdv A outer s H E J hr => by
    have tk : Takes (cxOf (L2.CX P w) P w K mg base ["root", "longs", "order", "row", "old"] "named_anew" (defScope s_p_named_anew) T.p_named_anew.f cdv A outer s H E) (fun cls d _ H' => E cls d H') := takes_of rfl rfl rfl rfl
    have hps : PassesOwn (model P w) (cxOf (L2.CX P w) P w K mg base ["root", "longs", "order", "row", "old"] "named_anew" (defScope s_p_named_anew) T.p_named_anew.f cdv A outer s H E).A (cxOf (L2.CX P w) P w K mg base ["root", "longs", "order", "row", "old"] "named_anew" (defScope s_p_named_anew) T.p_named_anew.f cdv A outer s H E).env (cxOf (L2.CX P w) P w K mg base ["root", "longs", "order", "row", "old"] "named_anew" (defScope s_p_named_anew) T.p_named_anew.f cdv A outer s H E).xe := passes_of rfl
    have hu65 := Room.u65 hr
    exact (fss_one (fs_ret (fe_tup (fds_cons (fe_var 0) (fds_cons (fe_callTy call_tupleF opn_tuple (by rfl) T.z_tuple boot_tuple (fa_cons (fe_lc rfl sc_p_named_anew.nd (fi_seq (fe_var 3)) (blkOk_by (own := [("old", 4)]) (by kernel_rfl)) (fun _ _ _ _ _ => (fg_name (i := 4) sc_p_named_anew.nd)) (fun _ _ _ _ _ => fts_nil) (fun _ _ _ _ _ => (fe_ix (fe_var 1) (fe_var 4)))) fa_nil)) (fds_cons (fe_callTy call_tupleF opn_tuple (by rfl) T.z_tuple boot_tuple (fa_cons (fe_lc rfl sc_p_named_anew.nd (fi_seq (fe_var 2)) (blkOk_by (own := [("old", 4)]) (by kernel_rfl)) (fun _ _ _ _ _ => (fg_name (i := 4) sc_p_named_anew.nd)) (fun _ _ _ _ _ => fts_nil) (fun _ _ _ _ _ => (fe_index hu65 (fe_var 3) (fe_var 4)))) fa_nil)) fds_nil))))))
theorem ok_cell (T : Tx K mg) : FnS P w K mg base 1 T.cell.f T.cell.fd ["_law_script", "_law_k"] d_cell := by
  unfold d_cell
  exact fn_mk T.cell.fn sc_cell fun cdv A outer s H E J hr => by
    have tk : Takes (cxOf (L2.CX P w) P w K mg base ["_law_script", "_law_k"] "_law_cell" (defScope s_cell) T.cell.f cdv A outer s H E) (fun cls d _ H' => E cls d H') := takes_of rfl rfl rfl rfl
    have hps : PassesOwn (model P w) (cxOf (L2.CX P w) P w K mg base ["_law_script", "_law_k"] "_law_cell" (defScope s_cell) T.cell.f cdv A outer s H E).A (cxOf (L2.CX P w) P w K mg base ["_law_script", "_law_k"] "_law_cell" (defScope s_cell) T.cell.f cdv A outer s H E).env (cxOf (L2.CX P w) P w K mg base ["_law_script", "_law_k"] "_law_cell" (defScope s_cell) T.cell.f cdv A outer s H E).xe := passes_of rfl
    skip
    exact (fss_cons (fs_if (ft_cmp op_lt op2_lt (nomark _) (fe_var 1) (fe_callB call_len opn_len (by rfl) T.z_len boot_len (fa_cons (fe_var 0) fa_nil))) (fss_one (fs_ret (fe_ix (fe_var 0) (fe_var 1)))) fss_nil)
  (fss_one (fs_ret (fe_op op_addU op2_add (fe_op op_mulU op2_mul fe_int (fe_var 1)) fe_int))))
theorem ok_mix (T : Tx K mg) : FnS P w K mg base 1 T.mix.f T.mix.fd ["_law_cell_here", "_law_k"] d_mix := by
  unfold d_mix
  exact fn_mk T.mix.fn sc_mix fun cdv A outer s H E J hr => by
    have tk : Takes (cxOf (L2.CX P w) P w K mg base ["_law_cell_here", "_law_k", "_law_number"] "_law_mix" (defScope s_mix) T.mix.f cdv A outer s H E) (fun cls d _ H' => E cls d H') := takes_of rfl rfl rfl rfl
    have hps : PassesOwn (model P w) (cxOf (L2.CX P w) P w K mg base ["_law_cell_here", "_law_k", "_law_number"] "_law_mix" (defScope s_mix) T.mix.f cdv A outer s H E).A (cxOf (L2.CX P w) P w K mg base ["_law_cell_here", "_law_k", "_law_number"] "_law_mix" (defScope s_mix) T.mix.f cdv A outer s H E).env (cxOf (L2.CX P w) P w K mg base ["_law_cell_here", "_law_k", "_law_number"] "_law_mix" (defScope s_mix) T.mix.f cdv A outer s H E).xe := passes_of rfl
    skip
    exact (fss_cons (fs_set (i := 2) sc_mix.nd (fe_op op_addU op2_add (fe_op op_mulU op2_mul (fe_op op_addU op2_add (fe_var 0) fe_int) fe_int) (fe_op op_mulU op2_mul fe_int (fe_var 1))))
  (fss_cons (fs_set (i := 2) sc_mix.nd (fe_op op_addU op2_add (fe_op op_modN op2_mod (fe_op op_mulU op2_mul (fe_var 2) (fe_var 2)) fe_int) (fe_var 1)))
  (fss_one (fs_ret (fe_op op_modN op2_mod (fe_op op_mulU op2_mul (fe_var 2) (fe_op op_addU op2_add (fe_var 2) fe_int)) fe_int)))))
theorem ok_take (T : Tx K mg) : FnS P w K mg base 1 T.take.f T.take.fd ["_law_box_here", "_law_many"] d_take := by
  unfold d_take
  exact fn_mk T.take.fn sc_take fun cdv A outer s H E J hr => by
    have tk : Takes (cxOf (L2.CX P w) P w K mg base ["_law_box_here", "_law_many", "_law_left", "_law_digit"] "_law_take" (defScope s_take) T.take.f cdv A outer s H E) (fun cls d _ H' => E cls d H') := takes_of rfl rfl rfl rfl
    have hps : PassesOwn (model P w) (cxOf (L2.CX P w) P w K mg base ["_law_box_here", "_law_many", "_law_left", "_law_digit"] "_law_take" (defScope s_take) T.take.f cdv A outer s H E).A (cxOf (L2.CX P w) P w K mg base ["_law_box_here", "_law_many", "_law_left", "_law_digit"] "_law_take" (defScope s_take) T.take.f cdv A outer s H E).env (cxOf (L2.CX P w) P w K mg base ["_law_box_here", "_law_many", "_law_left", "_law_digit"] "_law_take" (defScope s_take) T.take.f cdv A outer s H E).xe := passes_of rfl
    skip
    exact (fss_cons (fs_unp (fe_callB call_divmodF opn_divmod (by rfl) T.z_divmod boot_divmod (fa_cons (fe_ix (fe_var 0) fe_int) (fa_cons (fe_var 1) fa_nil))) (fg_tup rfl (fgs_cons (fg_name (i := 2) sc_take.nd) (fgs_cons (fg_name (i := 3) sc_take.nd) fgs_nil))))
  (fss_cons (fs_store (i := 0) (fe_var 2) fe_int)
  (fss_one (fs_ret (fe_var 3)))))
theorem ok_fit (T : Tx K mg) : FnS P w K mg base 1 T.fit.f T.fit.fd ["_law_a", "_law_b", "_law_c"] d_fit := by
  unfold d_fit
  exact fn_mk T.fit.fn sc_fit fun cdv A outer s H E J hr => by
    have tk : Takes (cxOf (L2.CX P w) P w K mg base ["_law_a", "_law_b", "_law_c", "_law_one", "_law_other"] "_law_fit" (defScope s_fit) T.fit.f cdv A outer s H E) (fun cls d _ H' => E cls d H') := takes_of rfl rfl rfl rfl
    have hps : PassesOwn (model P w) (cxOf (L2.CX P w) P w K mg base ["_law_a", "_law_b", "_law_c", "_law_one", "_law_other"] "_law_fit" (defScope s_fit) T.fit.f cdv A outer s H E).A (cxOf (L2.CX P w) P w K mg base ["_law_a", "_law_b", "_law_c", "_law_one", "_law_other"] "_law_fit" (defScope s_fit) T.fit.f cdv A outer s H E).env (cxOf (L2.CX P w) P w K mg base ["_law_a", "_law_b", "_law_c", "_law_one", "_law_other"] "_law_fit" (defScope s_fit) T.fit.f cdv A outer s H E).xe := passes_of rfl
    skip
    exact (fss_cons (fs_par (i := 3) (j := 4) rfl sc_fit.nd (by decide) (fds_cons (fe_callB call_abs opn_abs (by rfl) T.z_abs boot_abs (fa_cons (fe_var 0) fa_nil)) (fds_cons (fe_callB call_abs opn_abs (by rfl) T.z_abs boot_abs (fa_cons (fe_var 1) fa_nil)) fds_nil)))
  (fss_cons (fs_while hps (ft_cmp op_gt op2_gt (nomark _) (fe_var 4) fe_int) (fss_one (fs_par (i := 3) (j := 4) rfl sc_fit.nd (by decide) (fds_cons (fe_var 4) (fds_cons (fe_op op_modN op2_mod (fe_var 3) (fe_var 4)) fds_nil)))))
  (fss_cons (fs_set (i := 4) sc_fit.nd (fe_var 2))
  (fss_cons (fs_while hps (ft_cmp op_gt op2_gt (nomark _) (fe_var 4) fe_int) (fss_one (fs_par (i := 3) (j := 4) rfl sc_fit.nd (by decide) (fds_cons (fe_var 4) (fds_cons (fe_op op_modN op2_mod (fe_var 3) (fe_var 4)) fds_nil)))))
  (fss_one (fs_ret (fe_tup (fds_cons (fe_op op_fdivAll op2_fdiv (fe_var 0) (fe_var 3)) (fds_cons (fe_op op_fdivAll op2_fdiv (fe_var 1) (fe_var 3)) (fds_cons (fe_op op_fdivAll op2_fdiv (fe_var 2) (fe_var 3)) fds_nil))))))))))
theorem kind_kind_NoNumber (T : Tx K mg) (p : Addr × Obj) (hz : Zc (.ref T.e_NoNumber.C) none p.2) (hf : ∃ vs, p.2.data = .fields vs) : FnP P w K mg base (L2.CX P w) 1 T.kind.f T.kind.fd ["_law_e"] p (spK p.1 "number") := by
  obtain ⟨oc, od, kV, doc, pm, an, cdv, ct, osl, e, lk, hcd⟩ := T.kind.fn.ex
  rw [e] at lk ⊢
  refine fn_ofP lk hcd sc_kind (fun vs H Q E h => by obtain ⟨rfl, _⟩ := h; rfl) (fun A outer s H vs Q E hr h => ?_)
  obtain ⟨rfl, q⟩ := h
  have hu65 : (A.deeper (envOfC "_law_kind" (defScope s_kind) s.heap.objs.size T.kind.f cdv)).units + 65 < cLine := by have := hr.un; omega
  refine ⟨_, (pss_cons (ps_set (i := 1) sc_kind.nd rfl (.inl rfl) (pe_lst (pa_cons (pe_callB (call_isP (T.x_NoNumber) List.mem_cons_self hz hf) (by rfl) T.z_isinstance boot_isinstance (pa_cons (pe_var (i := 0) rfl (.inl rfl)) (pa_cons (pe_glob (v := .ref T.c_NoPoint.C) (by rfl) T.c_NoPoint.m rfl) pa_nil))) (pa_cons (pe_callB (call_isP (T.x_NoNumber) List.mem_cons_self hz hf) (by rfl) T.z_isinstance boot_isinstance (pa_cons (pe_var (i := 0) rfl (.inl rfl)) (pa_cons (pe_glob (v := .ref T.c_NoNumber.C) (by rfl) T.c_NoNumber.m rfl) pa_nil))) (pa_cons (pe_callB (call_isP (T.x_NoNumber) List.mem_cons_self hz hf) (by rfl) T.z_isinstance boot_isinstance (pa_cons (pe_var (i := 0) rfl (.inl rfl)) (pa_cons (pe_glob (v := .ref T.c_NoWord.C) (by rfl) T.c_NoWord.m rfl) pa_nil))) (pa_cons (pe_callB (call_isP (T.x_NoNumber) List.mem_cons_self hz hf) (by rfl) T.z_isinstance boot_isinstance (pa_cons (pe_var (i := 0) rfl (.inl rfl)) (pa_cons (pe_glob (v := .ref T.c_NoChange.C) (by rfl) T.c_NoChange.m rfl) pa_nil))) pa_nil)))))) (pss_cons (ps_set (i := 1) sc_kind.nd rfl (.inl rfl) (pe_op op_cat (pe_var (i := 1) rfl (.inl rfl)) (pe_lst (pa_cons (pe_callB (call_isP (T.x_NoNumber) List.mem_cons_self hz hf) (by rfl) T.z_isinstance boot_isinstance (pa_cons (pe_var (i := 0) rfl (.inl rfl)) (pa_cons (pe_glob (v := .ref T.c_TooMany.C) (by rfl) T.c_TooMany.m rfl) pa_nil))) (pa_cons (pe_callB (call_isP (T.x_NoNumber) List.mem_cons_self hz hf) (by rfl) T.z_isinstance boot_isinstance (pa_cons (pe_var (i := 0) rfl (.inl rfl)) (pa_cons (pe_glob (v := .ref T.c_NoStep.C) (by rfl) T.c_NoStep.m rfl) pa_nil))) (pa_cons (pe_callB (call_isP (T.x_NoNumber) List.mem_cons_self hz hf) (by rfl) T.z_isinstance boot_isinstance (pa_cons (pe_var (i := 0) rfl (.inl rfl)) (pa_cons (pe_glob (v := .ref T.c_Unlike.C) (by rfl) T.c_Unlike.m rfl) pa_nil))) (pa_cons pe_bl pa_nil))))))) (pss_one (ps_ret (pe_ix ix_list (pe_lst (pa_cons pe_str (pa_cons pe_str (pa_cons pe_str (pa_cons pe_str (pa_cons pe_str (pa_cons pe_str (pa_cons pe_str (pa_cons pe_str pa_nil))))))))) (pe_bm F.plainAttrs_list F.slot_list_index F.type_list_index (mt_indexD hu65) (pe_var (i := 1) rfl (.inl rfl)) (pa_cons pe_bl pa_nil)) (fun _ _ => rfl)))))), ?_⟩
  exact kind1_eval (bs1 := [false, true, false, false]) (bs2 := [false, false, false, true]) (ws := ["point", "number", "word", "change", "many", "step", "unlike", "other"]) (j := 1) (fun σ H Q hs q => ⟨_, hs, _, _, _, rfl, fun u hu => hu, T.i_NoNumber_NoPoint, ⟨_, hs, _, _, _, rfl, fun u hu => hu, T.i_NoNumber_NoNumber, ⟨_, hs, _, _, _, rfl, fun u hu => hu, T.i_NoNumber_NoWord, ⟨_, hs, _, _, _, rfl, fun u hu => hu, T.i_NoNumber_NoChange, q⟩⟩⟩⟩) (fun σ H Q hs q => ⟨_, hs, _, _, _, rfl, fun u hu => hu, T.i_NoNumber_TooMany, ⟨_, hs, _, _, _, rfl, fun u hu => hu, T.i_NoNumber_NoStep, ⟨_, hs, _, _, _, rfl, fun u hu => hu, T.i_NoNumber_Unlike, q⟩⟩⟩) (fun σ H Q q => q) (by decide) (by decide) rfl (by decide) rfl q
theorem kind_kind_NoStep (T : Tx K mg) (p : Addr × Obj) (hz : Zc (.ref T.e_NoStep.C) none p.2) (hf : ∃ vs, p.2.data = .fields vs) : FnP P w K mg base (L2.CX P w) 1 T.kind.f T.kind.fd ["_law_e"] p (spK p.1 "step") := by
  obtain ⟨oc, od, kV, doc, pm, an, cdv, ct, osl, e, lk, hcd⟩ := T.kind.fn.ex
  rw [e] at lk ⊢
  refine fn_ofP lk hcd sc_kind (fun vs H Q E h => by obtain ⟨rfl, _⟩ := h; rfl) (fun A outer s H vs Q E hr h => ?_)
  obtain ⟨rfl, q⟩ := h
  have hu65 : (A.deeper (envOfC "_law_kind" (defScope s_kind) s.heap.objs.size T.kind.f cdv)).units + 65 < cLine := by have := hr.un; omega
  refine ⟨_, (pss_cons (ps_set (i := 1) sc_kind.nd rfl (.inl rfl) (pe_lst (pa_cons (pe_callB (call_isP (T.x_NoStep) List.mem_cons_self hz hf) (by rfl) T.z_isinstance boot_isinstance (pa_cons (pe_var (i := 0) rfl (.inl rfl)) (pa_cons (pe_glob (v := .ref T.c_NoPoint.C) (by rfl) T.c_NoPoint.m rfl) pa_nil))) (pa_cons (pe_callB (call_isP (T.x_NoStep) List.mem_cons_self hz hf) (by rfl) T.z_isinstance boot_isinstance (pa_cons (pe_var (i := 0) rfl (.inl rfl)) (pa_cons (pe_glob (v := .ref T.c_NoNumber.C) (by rfl) T.c_NoNumber.m rfl) pa_nil))) (pa_cons (pe_callB (call_isP (T.x_NoStep) List.mem_cons_self hz hf) (by rfl) T.z_isinstance boot_isinstance (pa_cons (pe_var (i := 0) rfl (.inl rfl)) (pa_cons (pe_glob (v := .ref T.c_NoWord.C) (by rfl) T.c_NoWord.m rfl) pa_nil))) (pa_cons (pe_callB (call_isP (T.x_NoStep) List.mem_cons_self hz hf) (by rfl) T.z_isinstance boot_isinstance (pa_cons (pe_var (i := 0) rfl (.inl rfl)) (pa_cons (pe_glob (v := .ref T.c_NoChange.C) (by rfl) T.c_NoChange.m rfl) pa_nil))) pa_nil)))))) (pss_cons (ps_set (i := 1) sc_kind.nd rfl (.inl rfl) (pe_op op_cat (pe_var (i := 1) rfl (.inl rfl)) (pe_lst (pa_cons (pe_callB (call_isP (T.x_NoStep) List.mem_cons_self hz hf) (by rfl) T.z_isinstance boot_isinstance (pa_cons (pe_var (i := 0) rfl (.inl rfl)) (pa_cons (pe_glob (v := .ref T.c_TooMany.C) (by rfl) T.c_TooMany.m rfl) pa_nil))) (pa_cons (pe_callB (call_isP (T.x_NoStep) List.mem_cons_self hz hf) (by rfl) T.z_isinstance boot_isinstance (pa_cons (pe_var (i := 0) rfl (.inl rfl)) (pa_cons (pe_glob (v := .ref T.c_NoStep.C) (by rfl) T.c_NoStep.m rfl) pa_nil))) (pa_cons (pe_callB (call_isP (T.x_NoStep) List.mem_cons_self hz hf) (by rfl) T.z_isinstance boot_isinstance (pa_cons (pe_var (i := 0) rfl (.inl rfl)) (pa_cons (pe_glob (v := .ref T.c_Unlike.C) (by rfl) T.c_Unlike.m rfl) pa_nil))) (pa_cons pe_bl pa_nil))))))) (pss_one (ps_ret (pe_ix ix_list (pe_lst (pa_cons pe_str (pa_cons pe_str (pa_cons pe_str (pa_cons pe_str (pa_cons pe_str (pa_cons pe_str (pa_cons pe_str (pa_cons pe_str pa_nil))))))))) (pe_bm F.plainAttrs_list F.slot_list_index F.type_list_index (mt_indexD hu65) (pe_var (i := 1) rfl (.inl rfl)) (pa_cons pe_bl pa_nil)) (fun _ _ => rfl)))))), ?_⟩
  exact kind1_eval (bs1 := [false, false, false, false]) (bs2 := [false, true, false, true]) (ws := ["point", "number", "word", "change", "many", "step", "unlike", "other"]) (j := 5) (fun σ H Q hs q => ⟨_, hs, _, _, _, rfl, fun u hu => hu, T.i_NoStep_NoPoint, ⟨_, hs, _, _, _, rfl, fun u hu => hu, T.i_NoStep_NoNumber, ⟨_, hs, _, _, _, rfl, fun u hu => hu, T.i_NoStep_NoWord, ⟨_, hs, _, _, _, rfl, fun u hu => hu, T.i_NoStep_NoChange, q⟩⟩⟩⟩) (fun σ H Q hs q => ⟨_, hs, _, _, _, rfl, fun u hu => hu, T.i_NoStep_TooMany, ⟨_, hs, _, _, _, rfl, fun u hu => hu, T.i_NoStep_NoStep, ⟨_, hs, _, _, _, rfl, fun u hu => hu, T.i_NoStep_Unlike, q⟩⟩⟩) (fun σ H Q q => q) (by decide) (by decide) rfl (by decide) rfl q
theorem ok_p_lowest (T : Tx K mg) : FnS P w K mg base 2 T.p_lowest.f T.p_lowest.fd ["a", "b", "c"] d_p_lowest := by
  unfold d_p_lowest
  exact fn_mk T.p_lowest.fn sc_p_lowest fun cdv A outer s H E J hr => by
    have tk : Takes (cxOf (L2.CX P w) P w K mg base ["a", "b", "c", "by"] "lowest" (defScope s_p_lowest) T.p_lowest.f cdv A outer s H E) (fun cls d _ H' => E cls d H') := takes_of rfl rfl rfl rfl
    have hps : PassesOwn (model P w) (cxOf (L2.CX P w) P w K mg base ["a", "b", "c", "by"] "lowest" (defScope s_p_lowest) T.p_lowest.f cdv A outer s H E).A (cxOf (L2.CX P w) P w K mg base ["a", "b", "c", "by"] "lowest" (defScope s_p_lowest) T.p_lowest.f cdv A outer s H E).env (cxOf (L2.CX P w) P w K mg base ["a", "b", "c", "by"] "lowest" (defScope s_p_lowest) T.p_lowest.f cdv A outer s H E).xe := passes_of rfl
    skip
    exact (fss_cons (fs_set (i := 3) sc_p_lowest.nd (fe_call (ok_p_divisor T) (hr.mono (by decide)) (by rfl) T.p_divisor.m T.p_divisor.fn.kp T.p_divisor.b tk (fas_cons (fe_call (ok_p_divisor T) (hr.mono (by decide)) (by rfl) T.p_divisor.m T.p_divisor.fn.kp T.p_divisor.b tk (fas_cons (fe_var 0) (fas_cons (fe_var 1) fas_nil))) (fas_cons (fe_var 2) fas_nil))))
  (fss_cons (fs_if (ft_cmp op_lt op2_lt (nomark _) (fe_var 2) fe_int) (fss_one (fs_set (i := 3) sc_p_lowest.nd (fe_op op_sub op2_sub fe_int (fe_var 3)))) fss_nil)
  (fss_one (fs_ret (fe_tup (fds_cons (fe_op op_fdivAll op2_fdiv (fe_var 0) (fe_var 3)) (fds_cons (fe_op op_fdivAll op2_fdiv (fe_var 1) (fe_var 3)) (fds_cons (fe_op op_fdivAll op2_fdiv (fe_var 2) (fe_var 3)) fds_nil))))))))
theorem ok_box (T : Tx K mg) : FnS P w K mg base 2 T.box.f T.box.fd ["_law_script", "_law_k"] d_box := by
  unfold d_box
  exact fn_mk T.box.fn sc_box fun cdv A outer s H E J hr => by
    have tk : Takes (cxOf (L2.CX P w) P w K mg base ["_law_script", "_law_k", "_law_here", "_law_number", "_law_j"] "_law_box" (defScope s_box) T.box.f cdv A outer s H E) (fun cls d _ H' => E cls d H') := takes_of rfl rfl rfl rfl
    have hps : PassesOwn (model P w) (cxOf (L2.CX P w) P w K mg base ["_law_script", "_law_k", "_law_here", "_law_number", "_law_j"] "_law_box" (defScope s_box) T.box.f cdv A outer s H E).A (cxOf (L2.CX P w) P w K mg base ["_law_script", "_law_k", "_law_here", "_law_number", "_law_j"] "_law_box" (defScope s_box) T.box.f cdv A outer s H E).env (cxOf (L2.CX P w) P w K mg base ["_law_script", "_law_k", "_law_here", "_law_number", "_law_j"] "_law_box" (defScope s_box) T.box.f cdv A outer s H E).xe := passes_of rfl
    have hu := hr.units
    exact (fss_cons (fs_set (i := 2) sc_box.nd (fe_call (ok_cell T) (hr.mono (by decide)) (by rfl) T.cell.m T.cell.fn.kp T.cell.b tk (fas_cons (fe_var 0) (fas_cons (fe_var 1) fas_nil))))
  (fss_cons (fs_if (ft_cmp (op_eqD hu) op2_eq (nomark _) (fe_op op_modN op2_mod (fe_var 2) fe_int) fe_int) (fss_one (fs_ret (fe_lst (fds_cons (fe_op op_fdivAll op2_fdiv (fe_var 2) fe_int) fds_nil)))) fss_nil)
  (fss_cons (fs_set (i := 3) sc_box.nd fe_int)
  (fss_cons (fs_for hps rfl (fi_range1 (by rfl) T.z_range (fds_cons fe_int fds_nil)) (fg_name (i := 4) sc_box.nd) (fss_one (fs_set (i := 3) sc_box.nd (fe_op op_addU op2_add (fe_op op_mulU op2_mul (fe_var 3) fe_int) (fe_call (ok_mix T) (hr.mono (by decide)) (by rfl) T.mix.m T.mix.fn.kp T.mix.b tk (fas_cons (fe_var 2) (fas_cons (fe_var 4) fas_nil)))))))
  (fss_one (fs_ret (fe_lst (fds_cons (fe_var 3) fds_nil))))))))
theorem ok_plus (T : Tx K mg) : FnS P w K mg base 2 T.plus.f T.plus.fd ["_law_one", "_law_other"] d_plus := by
  unfold d_plus
  exact fn_mk T.plus.fn sc_plus fun cdv A outer s H E J hr => by
    have tk : Takes (cxOf (L2.CX P w) P w K mg base ["_law_one", "_law_other", "_law_a", "_law_b", "_law_c", "_law_d", "_law_e", "_law_f"] "_law_plus" (defScope s_plus) T.plus.f cdv A outer s H E) (fun cls d _ H' => E cls d H') := takes_of rfl rfl rfl rfl
    have hps : PassesOwn (model P w) (cxOf (L2.CX P w) P w K mg base ["_law_one", "_law_other", "_law_a", "_law_b", "_law_c", "_law_d", "_law_e", "_law_f"] "_law_plus" (defScope s_plus) T.plus.f cdv A outer s H E).A (cxOf (L2.CX P w) P w K mg base ["_law_one", "_law_other", "_law_a", "_law_b", "_law_c", "_law_d", "_law_e", "_law_f"] "_law_plus" (defScope s_plus) T.plus.f cdv A outer s H E).env (cxOf (L2.CX P w) P w K mg base ["_law_one", "_law_other", "_law_a", "_law_b", "_law_c", "_law_d", "_law_e", "_law_f"] "_law_plus" (defScope s_plus) T.plus.f cdv A outer s H E).xe := passes_of rfl
    skip
    exact (fss_cons (fs_unp (fe_var 0) (fg_tup rfl (fgs_cons (fg_name (i := 2) sc_plus.nd) (fgs_cons (fg_name (i := 3) sc_plus.nd) (fgs_cons (fg_name (i := 4) sc_plus.nd) fgs_nil)))))
  (fss_cons (fs_unp (fe_var 1) (fg_tup rfl (fgs_cons (fg_name (i := 5) sc_plus.nd) (fgs_cons (fg_name (i := 6) sc_plus.nd) (fgs_cons (fg_name (i := 7) sc_plus.nd) fgs_nil)))))
  (fss_one (fs_ret (fe_call (ok_fit T) (hr.mono (by decide)) (by rfl) T.fit.m T.fit.fn.kp T.fit.b tk (fas_cons (fe_op op_addU op2_add (fe_op op_mulU op2_mul (fe_var 2) (fe_var 7)) (fe_op op_mulU op2_mul (fe_var 5) (fe_var 4))) (fas_cons (fe_op op_addU op2_add (fe_op op_mulU op2_mul (fe_var 3) (fe_var 7)) (fe_op op_mulU op2_mul (fe_var 6) (fe_var 4))) (fas_cons (fe_op op_mulU op2_mul (fe_var 4) (fe_var 7)) fas_nil))))))))
theorem ok_p_plus (T : Tx K mg) : FnS P w K mg base 3 T.p_plus.f T.p_plus.fd ["root", "one", "other"] d_p_plus := by
  unfold d_p_plus
  exact fn_mk T.p_plus.fn sc_p_plus fun cdv A outer s H E J hr => by
    have tk : Takes (cxOf (L2.CX P w) P w K mg base ["root", "one", "other", "a", "b", "c", "d", "e", "f"] "plus" (defScope s_p_plus) T.p_plus.f cdv A outer s H E) (fun cls d _ H' => E cls d H') := takes_of rfl rfl rfl rfl
    have hps : PassesOwn (model P w) (cxOf (L2.CX P w) P w K mg base ["root", "one", "other", "a", "b", "c", "d", "e", "f"] "plus" (defScope s_p_plus) T.p_plus.f cdv A outer s H E).A (cxOf (L2.CX P w) P w K mg base ["root", "one", "other", "a", "b", "c", "d", "e", "f"] "plus" (defScope s_p_plus) T.p_plus.f cdv A outer s H E).env (cxOf (L2.CX P w) P w K mg base ["root", "one", "other", "a", "b", "c", "d", "e", "f"] "plus" (defScope s_p_plus) T.p_plus.f cdv A outer s H E).xe := passes_of rfl
    skip
    exact (fss_cons (fs_unp (fe_var 1) (fg_tup rfl (fgs_cons (fg_name (i := 3) sc_p_plus.nd) (fgs_cons (fg_name (i := 4) sc_p_plus.nd) (fgs_cons (fg_name (i := 5) sc_p_plus.nd) fgs_nil)))))
  (fss_cons (fs_unp (fe_var 2) (fg_tup rfl (fgs_cons (fg_name (i := 6) sc_p_plus.nd) (fgs_cons (fg_name (i := 7) sc_p_plus.nd) (fgs_cons (fg_name (i := 8) sc_p_plus.nd) fgs_nil)))))
  (fss_one (fs_ret (fe_call (ok_p_lowest T) (hr.mono (by decide)) (by rfl) T.p_lowest.m T.p_lowest.fn.kp T.p_lowest.b tk (fas_cons (fe_op op_addU op2_add (fe_op op_mulU op2_mul (fe_var 3) (fe_var 8)) (fe_op op_mulU op2_mul (fe_var 6) (fe_var 5))) (fas_cons (fe_op op_addU op2_add (fe_op op_mulU op2_mul (fe_var 4) (fe_var 8)) (fe_op op_mulU op2_mul (fe_var 7) (fe_var 5))) (fas_cons (fe_op op_mulU op2_mul (fe_var 5) (fe_var 8)) fas_nil))))))))
theorem ok_minus (T : Tx K mg) : FnS P w K mg base 3 T.minus.f T.minus.fd ["_law_one", "_law_other"] d_minus := by
  unfold d_minus
  exact fn_mk T.minus.fn sc_minus fun cdv A outer s H E J hr => by
    have tk : Takes (cxOf (L2.CX P w) P w K mg base ["_law_one", "_law_other"] "_law_minus" (defScope s_minus) T.minus.f cdv A outer s H E) (fun cls d _ H' => E cls d H') := takes_of rfl rfl rfl rfl
    have hps : PassesOwn (model P w) (cxOf (L2.CX P w) P w K mg base ["_law_one", "_law_other"] "_law_minus" (defScope s_minus) T.minus.f cdv A outer s H E).A (cxOf (L2.CX P w) P w K mg base ["_law_one", "_law_other"] "_law_minus" (defScope s_minus) T.minus.f cdv A outer s H E).env (cxOf (L2.CX P w) P w K mg base ["_law_one", "_law_other"] "_law_minus" (defScope s_minus) T.minus.f cdv A outer s H E).xe := passes_of rfl
    skip
    exact (fss_one (fs_ret (fe_call (ok_plus T) (hr.mono (by decide)) (by rfl) T.plus.m T.plus.fn.kp T.plus.b tk (fas_cons (fe_var 0) (fas_cons (fe_tup (fds_cons (fe_op op_sub op2_sub fe_int (fe_ix (fe_var 1) fe_int)) (fds_cons (fe_op op_sub op2_sub fe_int (fe_ix (fe_var 1) fe_int)) (fds_cons (fe_ix (fe_var 1) fe_int) fds_nil)))) fas_nil)))))
theorem ok_p_minus (T : Tx K mg) : FnS P w K mg base 4 T.p_minus.f T.p_minus.fd ["root", "one", "other"] d_p_minus := by
  unfold d_p_minus
  exact fn_mk T.p_minus.fn sc_p_minus fun cdv A outer s H E J hr => by
    have tk : Takes (cxOf (L2.CX P w) P w K mg base ["root", "one", "other", "a", "b", "c"] "minus" (defScope s_p_minus) T.p_minus.f cdv A outer s H E) (fun cls d _ H' => E cls d H') := takes_of rfl rfl rfl rfl
    have hps : PassesOwn (model P w) (cxOf (L2.CX P w) P w K mg base ["root", "one", "other", "a", "b", "c"] "minus" (defScope s_p_minus) T.p_minus.f cdv A outer s H E).A (cxOf (L2.CX P w) P w K mg base ["root", "one", "other", "a", "b", "c"] "minus" (defScope s_p_minus) T.p_minus.f cdv A outer s H E).env (cxOf (L2.CX P w) P w K mg base ["root", "one", "other", "a", "b", "c"] "minus" (defScope s_p_minus) T.p_minus.f cdv A outer s H E).xe := passes_of rfl
    skip
    exact (fss_cons (fs_unp (fe_var 2) (fg_tup rfl (fgs_cons (fg_name (i := 3) sc_p_minus.nd) (fgs_cons (fg_name (i := 4) sc_p_minus.nd) (fgs_cons (fg_name (i := 5) sc_p_minus.nd) fgs_nil)))))
  (fss_one (fs_ret (fe_call (ok_p_plus T) (hr.mono (by decide)) (by rfl) T.p_plus.m T.p_plus.fn.kp T.p_plus.b tk (fas_cons (fe_var 0) (fas_cons (fe_var 1) (fas_cons (fe_tup (fds_cons (fe_op op_sub op2_sub fe_int (fe_var 3)) (fds_cons (fe_op op_sub op2_sub fe_int (fe_var 4)) (fds_cons (fe_var 5) fds_nil)))) fas_nil)))))))
theorem ok_less (T : Tx K mg) : FnS P w K mg base 4 T.less.f T.less.fd ["_law_root", "_law_one", "_law_other"] d_less := by
  unfold d_less
  exact fn_mk T.less.fn sc_less fun cdv A outer s H E J hr => by
    have tk : Takes (cxOf (L2.CX P w) P w K mg base ["_law_root", "_law_one", "_law_other", "_law_a", "_law_b", "_law_c"] "_law_less" (defScope s_less) T.less.f cdv A outer s H E) (fun cls d _ H' => E cls d H') := takes_of rfl rfl rfl rfl
    have hps : PassesOwn (model P w) (cxOf (L2.CX P w) P w K mg base ["_law_root", "_law_one", "_law_other", "_law_a", "_law_b", "_law_c"] "_law_less" (defScope s_less) T.less.f cdv A outer s H E).A (cxOf (L2.CX P w) P w K mg base ["_law_root", "_law_one", "_law_other", "_law_a", "_law_b", "_law_c"] "_law_less" (defScope s_less) T.less.f cdv A outer s H E).env (cxOf (L2.CX P w) P w K mg base ["_law_root", "_law_one", "_law_other", "_law_a", "_law_b", "_law_c"] "_law_less" (defScope s_less) T.less.f cdv A outer s H E).xe := passes_of rfl
    skip
    exact (fss_cons (fs_unp (fe_call (ok_minus T) (hr.mono (by decide)) (by rfl) T.minus.m T.minus.fn.kp T.minus.b tk (fas_cons (fe_var 1) (fas_cons (fe_var 2) fas_nil))) (fg_tup rfl (fgs_cons (fg_name (i := 3) sc_less.nd) (fgs_cons (fg_name (i := 4) sc_less.nd) (fgs_cons (fg_name (i := 5) sc_less.nd) fgs_nil)))))
  (fss_cons (fs_if (FW.ft (fw_and (ft_cmp op_ge op2_ge (nomark _) (fe_var 3) fe_int) (fw_and1 (ft_cmp op_ge op2_ge (nomark _) (fe_var 4) fe_int)))) (fss_one (fs_ret fe_bl)) fss_nil)
  (fss_cons (fs_if (FW.ft (fw_and (ft_cmp op_le op2_le (nomark _) (fe_var 3) fe_int) (fw_and1 (ft_cmp op_le op2_le (nomark _) (fe_var 4) fe_int)))) (fss_one (fs_ret fe_bl)) fss_nil)
  (fss_cons (fs_if (ft_cmp op_lt op2_lt (nomark _) (fe_var 3) fe_int) (fss_one (fs_ret (fe_cmp op_gt op2_gt (nomark _) (fe_op op_mulU op2_mul (fe_var 3) (fe_var 3)) (fe_op op_mulU op2_mul (fe_op op_mulU op2_mul (fe_var 4) (fe_var 4)) (fe_var 0))))) fss_nil)
  (fss_one (fs_ret (fe_cmp op_lt op2_lt (nomark _) (fe_op op_mulU op2_mul (fe_var 3) (fe_var 3)) (fe_op op_mulU op2_mul (fe_op op_mulU op2_mul (fe_var 4) (fe_var 4)) (fe_var 0)))))))))
theorem ok_p_less (T : Tx K mg) : FnS P w K mg base 5 T.p_less.f T.p_less.fd ["root", "one", "other"] d_p_less := by
  unfold d_p_less
  exact fn_mk T.p_less.fn sc_p_less fun cdv A outer s H E J hr => by
    have tk : Takes (cxOf (L2.CX P w) P w K mg base ["root", "one", "other"] "less" (defScope s_p_less) T.p_less.f cdv A outer s H E) (fun cls d _ H' => E cls d H') := takes_of rfl rfl rfl rfl
    have hps : PassesOwn (model P w) (cxOf (L2.CX P w) P w K mg base ["root", "one", "other"] "less" (defScope s_p_less) T.p_less.f cdv A outer s H E).A (cxOf (L2.CX P w) P w K mg base ["root", "one", "other"] "less" (defScope s_p_less) T.p_less.f cdv A outer s H E).env (cxOf (L2.CX P w) P w K mg base ["root", "one", "other"] "less" (defScope s_p_less) T.p_less.f cdv A outer s H E).xe := passes_of rfl
    skip
    exact (fss_one (fs_ret (fe_cmp op_lt op2_lt (nomark _) (fe_call (ok_p_sign_of T) (hr.mono (by decide)) (by rfl) T.p_sign_of.m T.p_sign_of.fn.kp T.p_sign_of.b tk (fas_cons (fe_var 0) (fas_cons (fe_call (ok_p_minus T) (hr.mono (by decide)) (by rfl) T.p_minus.m T.p_minus.fn.kp T.p_minus.b tk (fas_cons (fe_var 0) (fas_cons (fe_var 1) (fas_cons (fe_var 2) fas_nil)))) fas_nil))) fe_int)))
theorem ok_long (T : Tx K mg) : FnS P w K mg base 5 T.long.f T.long.fd ["_law_box_here", "_law_root"] d_long := by
  unfold d_long
  exact fn_mk T.long.fn sc_long fun cdv A outer s H E J hr => by
    have tk : Takes (cxOf (L2.CX P w) P w K mg base ["_law_box_here", "_law_root", "_law_found"] "_law_long" (defScope s_long) T.long.f cdv A outer s H E) (fun cls d _ H' => E cls d H') := takes_of rfl rfl rfl rfl
    have hps : PassesOwn (model P w) (cxOf (L2.CX P w) P w K mg base ["_law_box_here", "_law_root", "_law_found"] "_law_long" (defScope s_long) T.long.f cdv A outer s H E).A (cxOf (L2.CX P w) P w K mg base ["_law_box_here", "_law_root", "_law_found"] "_law_long" (defScope s_long) T.long.f cdv A outer s H E).env (cxOf (L2.CX P w) P w K mg base ["_law_box_here", "_law_root", "_law_found"] "_law_long" (defScope s_long) T.long.f cdv A outer s H E).xe := passes_of rfl
    have hu := hr.units
    exact (fss_cons (fs_if (ft_cmp (op_eqD hu) op2_eq (nomark _) (fe_var 1) fe_int) (fss_one (fs_ret (fe_call (ok_fit T) (hr.mono (by decide)) (by rfl) T.fit.m T.fit.fn.kp T.fit.b tk (fas_cons (fe_op op_addU op2_add fe_int (fe_call (ok_take T) (hr.mono (by decide)) (by rfl) T.take.m T.take.fn.kp T.take.b tk (fas_box (i := 0) (fas_cons fe_int fas_nil)))) (fas_cons fe_int (fas_cons (fe_op op_addU op2_add fe_int (fe_call (ok_take T) (hr.mono (by decide)) (by rfl) T.take.m T.take.fn.kp T.take.b tk (fas_box (i := 0) (fas_cons fe_int fas_nil)))) fas_nil)))))) fss_nil)
  (fss_cons (fs_set (i := 2) sc_long.nd (fe_call (ok_fit T) (hr.mono (by decide)) (by rfl) T.fit.m T.fit.fn.kp T.fit.b tk (fas_cons (fe_op op_sub op2_sub (fe_call (ok_take T) (hr.mono (by decide)) (by rfl) T.take.m T.take.fn.kp T.take.b tk (fas_box (i := 0) (fas_cons fe_int fas_nil))) fe_int) (fas_cons (fe_op op_sub op2_sub (fe_call (ok_take T) (hr.mono (by decide)) (by rfl) T.take.m T.take.fn.kp T.take.b tk (fas_box (i := 0) (fas_cons fe_int fas_nil))) fe_int) (fas_cons (fe_op op_addU op2_add fe_int (fe_call (ok_take T) (hr.mono (by decide)) (by rfl) T.take.m T.take.fn.kp T.take.b tk (fas_box (i := 0) (fas_cons fe_int fas_nil)))) fas_nil)))))
  (fss_cons (fs_if (ft_val (fe_call (ok_less T) (hr.mono (by decide)) (by rfl) T.less.m T.less.fn.kp T.less.b tk (fas_cons (fe_var 1) (fas_cons (fe_var 2) (fas_cons (fe_tup (fds_cons fe_int (fds_cons fe_int (fds_cons fe_int fds_nil)))) fas_nil))))) (fss_one (fs_ret (fe_tup (fds_cons (fe_op op_sub op2_sub fe_int (fe_ix (fe_var 2) fe_int)) (fds_cons (fe_op op_sub op2_sub fe_int (fe_ix (fe_var 2) fe_int)) (fds_cons (fe_ix (fe_var 2) fe_int) fds_nil)))))) fss_nil)
  (fss_one (fs_ret (fe_ix (fe_lst (fds_cons (fe_var 2) (fds_cons (fe_tup (fds_cons fe_int (fds_cons fe_int (fds_cons fe_int fds_nil)))) fds_nil))) (fe_callTy call_int1 opn_int1 (by rfl) T.z_int boot_int (fa_cons (fe_cmp (op_eqD hu) op2_eq (nomark _) (fe_var 2) (fe_tup (fds_cons fe_int (fds_cons fe_int (fds_cons fe_int fds_nil))))) fa_nil))))))))
theorem ok_lesser (T : Tx K mg) : FnS P w K mg base 5 T.lesser.f T.lesser.fd ["_law_change_here"] d_lesser := by
  unfold d_lesser
  exact fn_mk T.lesser.fn sc_lesser fun cdv A outer s H E J hr => by
    have tk : Takes (cxOf (L2.CX P w) P w K mg base ["_law_change_here", "_law_root", "_law_longs", "_law_order", "_law_top", "_law_bottom", "_law_new", "_law_ahead", "_law_rear", "_law_sort", "_law_old"] "_law_lesser" (defScope s_lesser) T.lesser.f cdv A outer s H E) (fun cls d _ H' => E cls d H') := takes_of rfl rfl rfl rfl
    have hps : PassesOwn (model P w) (cxOf (L2.CX P w) P w K mg base ["_law_change_here", "_law_root", "_law_longs", "_law_order", "_law_top", "_law_bottom", "_law_new", "_law_ahead", "_law_rear", "_law_sort", "_law_old"] "_law_lesser" (defScope s_lesser) T.lesser.f cdv A outer s H E).A (cxOf (L2.CX P w) P w K mg base ["_law_change_here", "_law_root", "_law_longs", "_law_order", "_law_top", "_law_bottom", "_law_new", "_law_ahead", "_law_rear", "_law_sort", "_law_old"] "_law_lesser" (defScope s_lesser) T.lesser.f cdv A outer s H E).env (cxOf (L2.CX P w) P w K mg base ["_law_change_here", "_law_root", "_law_longs", "_law_order", "_law_top", "_law_bottom", "_law_new", "_law_ahead", "_law_rear", "_law_sort", "_law_old"] "_law_lesser" (defScope s_lesser) T.lesser.f cdv A outer s H E).xe := passes_of rfl
    have hu65 := Room.u65 hr
    have hu := hr.units
    exact (fss_cons (fs_unp (fe_var 0) (fg_tup rfl (fgs_cons (fg_name (i := 1) sc_lesser.nd) (fgs_cons (fg_name (i := 2) sc_lesser.nd) (fgs_cons (fg_name (i := 3) sc_lesser.nd) fgs_nil)))))
  (fss_cons (fs_set (i := 4) sc_lesser.nd (fe_op op_sub op2_sub (fe_callB call_len opn_len (by rfl) T.z_len boot_len (fa_cons (fe_var 2) fa_nil)) fe_int))
  (fss_cons (fs_set (i := 5) sc_lesser.nd (fe_ix (fe_var 3) (fe_un un_neg op1_neg fe_int)))
  (fss_cons (fs_if (ft_cmp (op_eqD hu) op2_eq (nomark _) (fe_ix (fe_var 2) (fe_var 4)) (fe_ix (fe_var 2) (fe_var 5))) (fss_one (fs_ret fe_non)) fss_nil)
  (fss_cons (fs_set (i := 6) sc_lesser.nd (fe_callTy call_list_of opn_list (by rfl) T.z_list boot_list (fa_cons (fe_var 2) fa_nil)))
  (fss_cons (fs_set (i := 7) sc_lesser.nd (fe_listR1 rfl (by rfl) T.z_list (by rfl) T.z_range (fe_callB call_len opn_len (by rfl) T.z_len boot_len (fa_cons (fe_var 2) fa_nil))))
  (fss_cons (fs_set (i := 8) sc_lesser.nd (fe_callTy call_list_of opn_list (by rfl) T.z_list boot_list (fa_cons (fe_var 3) fa_nil)))
  (fss_cons (fs_set (i := 9) sc_lesser.nd (fe_callTy call_int1 opn_int1 (by rfl) T.z_int boot_int (fa_cons (fe_call (ok_less T) (hr.mono (by decide)) (by rfl) T.less.m T.less.fn.kp T.less.b tk (fas_cons (fe_var 1) (fas_cons (fe_ix (fe_var 2) (fe_var 4)) (fas_cons (fe_ix (fe_var 2) (fe_var 5)) fas_nil)))) fa_nil)))
  (fss_cons (fs_if (ft_cmp (op_eqD hu) op2_eq (nomark _) (fe_var 9) fe_int) (fss_cons (fs_store (i := 6) (fe_call (ok_minus T) (hr.mono (by decide)) (by rfl) T.minus.m T.minus.fn.kp T.minus.b tk (fas_cons (fe_ix (fe_var 2) (fe_var 4)) (fas_cons (fe_ix (fe_var 2) (fe_var 5)) fas_nil))) (fe_var 4))
  (fss_cons (fs_expr (fe_mt0 (i := 8) F.slot_list_pop F.type_list_pop mt_pop opm_pop))
  (fss_one (fs_expr (fe_mt (i := 8) F.slot_list_insert F.type_list_insert mt_insert opm_insert (fds_cons (fe_op op_addU op2_add (fe_index hu65 (fe_var 8) (fe_var 4)) fe_int) (fds_cons (fe_var 5) fds_nil))))))) (fss_cons (fs_store (i := 6) (fe_call (ok_minus T) (hr.mono (by decide)) (by rfl) T.minus.m T.minus.fn.kp T.minus.b tk (fas_cons (fe_ix (fe_var 2) (fe_var 5)) (fas_cons (fe_ix (fe_var 2) (fe_var 4)) fas_nil))) (fe_var 5))
  (fss_cons (fs_expr (fe_mt0 (i := 7) F.slot_list_pop F.type_list_pop mt_pop opm_pop))
  (fss_one (fs_expr (fe_mt (i := 7) F.slot_list_insert F.type_list_insert mt_insert opm_insert (fds_cons (fe_op op_addU op2_add (fe_index hu65 (fe_var 7) (fe_var 5)) fe_int) (fds_cons (fe_var 4) fds_nil))))))))
  (fss_one (fs_ret (fe_tup (fds_cons (fe_var 9) (fds_cons (fe_tup (fds_cons (fe_var 1) (fds_cons (fe_callTy call_tupleF opn_tuple (by rfl) T.z_tuple boot_tuple (fa_cons (fe_lc rfl sc_lesser.nd (fi_seq (fe_var 7)) (blkOk_by (own := [("_law_old", 10)]) (by kernel_rfl)) (fun _ _ _ _ _ => (fg_name (i := 10) sc_lesser.nd)) (fun _ _ _ _ _ => fts_nil) (fun _ _ _ _ _ => (fe_ix (fe_var 6) (fe_var 10)))) fa_nil)) (fds_cons (fe_callTy call_tupleF opn_tuple (by rfl) T.z_tuple boot_tuple (fa_cons (fe_lc rfl sc_lesser.nd (fi_seq (fe_var 8)) (blkOk_by (own := [("_law_old", 10)]) (by kernel_rfl)) (fun _ _ _ _ _ => (fg_name (i := 10) sc_lesser.nd)) (fun _ _ _ _ _ => fts_nil) (fun _ _ _ _ _ => (fe_index hu65 (fe_var 7) (fe_var 10)))) fa_nil)) fds_nil)))) fds_nil))))))))))))))
theorem ok_p_step_rows (T : Tx K mg) : FnS P w K mg base 6 T.p_step_rows.f T.p_step_rows.fd ["change"] d_p_step_rows := by
  unfold d_p_step_rows
  exact fn_mk T.p_step_rows.fn sc_p_step_rows fun cdv A outer s H E J hr => by
    have tk : Takes (cxOf (L2.CX P w) P w K mg base ["change", "root", "longs", "order", "top", "bottom", "row", "new"] "step_rows" (defScope s_p_step_rows) T.p_step_rows.f cdv A outer s H E) (fun cls d _ H' => E cls d H') := takes_of rfl rfl rfl rfl
    have hps : PassesOwn (model P w) (cxOf (L2.CX P w) P w K mg base ["change", "root", "longs", "order", "top", "bottom", "row", "new"] "step_rows" (defScope s_p_step_rows) T.p_step_rows.f cdv A outer s H E).A (cxOf (L2.CX P w) P w K mg base ["change", "root", "longs", "order", "top", "bottom", "row", "new"] "step_rows" (defScope s_p_step_rows) T.p_step_rows.f cdv A outer s H E).env (cxOf (L2.CX P w) P w K mg base ["change", "root", "longs", "order", "top", "bottom", "row", "new"] "step_rows" (defScope s_p_step_rows) T.p_step_rows.f cdv A outer s H E).xe := passes_of rfl
    skip
    exact (fss_cons (fs_if (ft_val (fe_call (ok_p_is_even T) (hr.mono (by decide)) (by rfl) T.p_is_even.m T.p_is_even.fn.kp T.p_is_even.b tk (fas_cons (fe_var 0) fas_nil))) (fss_one (fs_raise T.e_NoStep rfl tk (by rfl))) fss_nil)
  (fss_cons (fs_unp (fe_var 0) (fg_tup rfl (fgs_cons (fg_name (i := 1) sc_p_step_rows.nd) (fgs_cons (fg_name (i := 2) sc_p_step_rows.nd) (fgs_cons (fg_name (i := 3) sc_p_step_rows.nd) fgs_nil)))))
  (fss_cons (fs_set (i := 4) sc_p_step_rows.nd (fe_op op_sub op2_sub (fe_callB call_len opn_len (by rfl) T.z_len boot_len (fa_cons (fe_var 2) fa_nil)) fe_int))
  (fss_cons (fs_set (i := 5) sc_p_step_rows.nd (fe_ix (fe_var 3) (fe_un un_neg op1_neg fe_int)))
  (fss_cons (fs_set (i := 6) sc_p_step_rows.nd (fe_listR1 rfl (by rfl) T.z_list (by rfl) T.z_range (fe_callB call_len opn_len (by rfl) T.z_len boot_len (fa_cons (fe_var 2) fa_nil))))
  (fss_cons (fs_set (i := 7) sc_p_step_rows.nd (fe_callTy call_list_of opn_list (by rfl) T.z_list boot_list (fa_cons (fe_var 2) fa_nil)))
  (fss_cons (fs_if (ft_val (fe_call (ok_p_less T) (hr.mono (by decide)) (by rfl) T.p_less.m T.p_less.fn.kp T.p_less.b tk (fas_cons (fe_var 1) (fas_cons (fe_ix (fe_var 2) (fe_var 5)) (fas_cons (fe_ix (fe_var 2) (fe_var 4)) fas_nil))))) (fss_cons (fs_store (i := 7) (fe_call (ok_p_minus T) (hr.mono (by decide)) (by rfl) T.p_minus.m T.p_minus.fn.kp T.p_minus.b tk (fas_cons (fe_var 1) (fas_cons (fe_ix (fe_var 2) (fe_var 4)) (fas_cons (fe_ix (fe_var 2) (fe_var 5)) fas_nil)))) (fe_var 4))
  (fss_one (fs_ret (fe_tup (fds_cons fe_int (fds_cons (fe_var 7) (fds_cons (fe_call (ok_p_put_behind T) (hr.mono (by decide)) (by rfl) T.p_put_behind.m T.p_put_behind.fn.kp T.p_put_behind.b tk (fas_cons (fe_var 3) (fas_cons (fe_var 5) (fas_cons (fe_var 4) fas_nil)))) (fds_cons (fe_var 6) fds_nil)))))))) fss_nil)
  (fss_cons (fs_store (i := 7) (fe_call (ok_p_minus T) (hr.mono (by decide)) (by rfl) T.p_minus.m T.p_minus.fn.kp T.p_minus.b tk (fas_cons (fe_var 1) (fas_cons (fe_ix (fe_var 2) (fe_var 5)) (fas_cons (fe_ix (fe_var 2) (fe_var 4)) fas_nil)))) (fe_var 5))
  (fss_one (fs_ret (fe_tup (fds_cons fe_int (fds_cons (fe_var 7) (fds_cons (fe_callTy call_list_of opn_list (by rfl) T.z_list boot_list (fa_cons (fe_var 3) fa_nil)) (fds_cons (fe_call (ok_p_put_behind T) (hr.mono (by decide)) (by rfl) T.p_put_behind.m T.p_put_behind.fn.kp T.p_put_behind.b tk (fas_cons (fe_var 6) (fas_cons (fe_var 4) (fas_cons (fe_var 5) fas_nil)))) fds_nil)))))))))))))))
theorem ok_change (T : Tx K mg) : FnS P w K mg base 6 T.change.f T.change.fd ["_law_box_here", "_law_most", "_law_roots"] d_change := by
  unfold d_change
  exact fn_mk T.change.fn sc_change fun cdv A outer s H E J hr => by
    have tk : Takes (cxOf (L2.CX P w) P w K mg base ["_law_box_here", "_law_most", "_law_roots", "_law_root", "_law_many", "_law_longs", "_law_left", "_law_order", "_law_way", "_law_piece"] "_law_change" (defScope s_change) T.change.f cdv A outer s H E) (fun cls d _ H' => E cls d H') := takes_of rfl rfl rfl rfl
    have hps : PassesOwn (model P w) (cxOf (L2.CX P w) P w K mg base ["_law_box_here", "_law_most", "_law_roots", "_law_root", "_law_many", "_law_longs", "_law_left", "_law_order", "_law_way", "_law_piece"] "_law_change" (defScope s_change) T.change.f cdv A outer s H E).A (cxOf (L2.CX P w) P w K mg base ["_law_box_here", "_law_most", "_law_roots", "_law_root", "_law_many", "_law_longs", "_law_left", "_law_order", "_law_way", "_law_piece"] "_law_change" (defScope s_change) T.change.f cdv A outer s H E).env (cxOf (L2.CX P w) P w K mg base ["_law_box_here", "_law_most", "_law_roots", "_law_root", "_law_many", "_law_longs", "_law_left", "_law_order", "_law_way", "_law_piece"] "_law_change" (defScope s_change) T.change.f cdv A outer s H E).xe := passes_of rfl
    have hu := hr.units
    exact (fss_cons (fs_set (i := 3) sc_change.nd (fe_ix (fe_var 2) (fe_call (ok_take T) (hr.mono (by decide)) (by rfl) T.take.m T.take.fn.kp T.take.b tk (fas_box (i := 0) (fas_cons (fe_callB call_len opn_len (by rfl) T.z_len boot_len (fa_cons (fe_var 2) fa_nil)) fas_nil)))))
  (fss_cons (fs_set (i := 4) sc_change.nd (fe_op op_addU op2_add fe_int (fe_call (ok_take T) (hr.mono (by decide)) (by rfl) T.take.m T.take.fn.kp T.take.b tk (fas_box (i := 0) (fas_cons (fe_var 1) fas_nil)))))
  (fss_cons (fs_set (i := 5) sc_change.nd (fe_callTy call_tupleF opn_tuple (by rfl) T.z_tuple boot_tuple (fa_cons (fe_lc rfl sc_change.nd (fi_range1 (by rfl) T.z_range (fds_cons (fe_var 4) fds_nil)) (blkOk_by (own := [("_law_piece", 9)]) (by kernel_rfl)) (fun _ _ _ _ _ => (fg_name (i := 9) sc_change.nd)) (fun _ _ _ _ _ => fts_nil) (fun _ _ _ _ _ => (fe_call (ok_long T) (hr.mono (by decide)) (by rfl) T.long.m T.long.fn.kp T.long.b takes0 (fas_box (i := 0) (fas_cons (fe_var 3) fas_nil))))) fa_nil)))
  (fss_cons (fs_set (i := 6) sc_change.nd (fe_listR1 rfl (by rfl) T.z_list (by rfl) T.z_range (fe_var 4)))
  (fss_cons (fs_set (i := 7) sc_change.nd (fe_lst fds_nil))
  (fss_cons (fs_set (i := 8) sc_change.nd (fe_call (ok_take T) (hr.mono (by decide)) (by rfl) T.take.m T.take.fn.kp T.take.b tk (fas_box (i := 0) (fas_cons fe_int fas_nil))))
  (fss_cons (fs_while hps (ft_cmp (op_neD hu) op2_ne (nomark _) (fe_var 6) (fe_lst fds_nil)) (fss_one (fs_expr (fe_mt (i := 7) F.slot_list_append F.type_list_append mt_append opm_append (fds_cons (fe_mt (i := 6) F.slot_list_pop F.type_list_pop mt_popAt opm_popAt (fds_cons (fe_ix (fe_lst (fds_cons (fe_call (ok_take T) (hr.mono (by decide)) (by rfl) T.take.m T.take.fn.kp T.take.b tk (fas_box (i := 0) (fas_cons (fe_callB call_len opn_len (by rfl) T.z_len boot_len (fa_cons (fe_var 6) fa_nil)) fas_nil))) (fds_cons (fe_op op_sub op2_sub (fe_callB call_len opn_len (by rfl) T.z_len boot_len (fa_cons (fe_var 6) fa_nil)) fe_int) fds_nil))) (fe_callTy call_int1 opn_int1 (by rfl) T.z_int boot_int (fa_cons (fe_cmp (op_eqD hu) op2_eq (nomark _) (fe_var 8) fe_int) fa_nil))) fds_nil)) fds_nil)))))
  (fss_one (fs_ret (fe_tup (fds_cons (fe_var 3) (fds_cons (fe_var 5) (fds_cons (fe_callTy call_tupleF opn_tuple (by rfl) T.z_tuple boot_tuple (fa_cons (fe_var 7) fa_nil)) fds_nil)))))))))))))
theorem ok_due (T : Tx K mg) : FnS P w K mg base 6 T.due.f T.due.fd ["_law_change_here", "_law_most"] d_due := by
  unfold d_due
  exact fn_mk T.due.fn sc_due fun cdv A outer s H E J hr => by
    have tk : Takes (cxOf (L2.CX P w) P w K mg base ["_law_change_here", "_law_most", "_law_sorts", "_law_step"] "_law_due" (defScope s_due) T.due.f cdv A outer s H E) (fun cls d _ H' => E cls d H') := takes_of rfl rfl rfl rfl
    have hps : PassesOwn (model P w) (cxOf (L2.CX P w) P w K mg base ["_law_change_here", "_law_most", "_law_sorts", "_law_step"] "_law_due" (defScope s_due) T.due.f cdv A outer s H E).A (cxOf (L2.CX P w) P w K mg base ["_law_change_here", "_law_most", "_law_sorts", "_law_step"] "_law_due" (defScope s_due) T.due.f cdv A outer s H E).env (cxOf (L2.CX P w) P w K mg base ["_law_change_here", "_law_most", "_law_sorts", "_law_step"] "_law_due" (defScope s_due) T.due.f cdv A outer s H E).xe := passes_of rfl
    skip
    exact (fss_cons (fs_set (i := 2) sc_due.nd (fe_lst fds_nil))
  (fss_cons (fs_while hps (ft_cmp op_lt op2_lt (nomark _) (fe_callB call_len opn_len (by rfl) T.z_len boot_len (fa_cons (fe_var 2) fa_nil)) (fe_var 1)) (fss_cons (fs_set (i := 3) sc_due.nd (fe_call (ok_lesser T) (hr.mono (by decide)) (by rfl) T.lesser.m T.lesser.fn.kp T.lesser.b tk (fas_cons (fe_var 0) fas_nil)))
  (fss_cons (fs_if (ft_cmp op_isU op2_is (nomark _) (fe_var 3) fe_non) (fss_one (fs_ret (fe_tup (fds_cons (fe_var 2) (fds_cons (fe_var 0) fds_nil))))) fss_nil)
  (fss_cons (fs_expr (fe_mt (i := 2) F.slot_list_append F.type_list_append mt_append opm_append (fds_cons (fe_ix (fe_var 3) fe_int) fds_nil)))
  (fss_one (fs_set (i := 0) sc_due.nd (fe_ix (fe_var 3) fe_int)))))))
  (fss_one (fs_ret (fe_tup (fds_cons (fe_var 2) (fds_cons (fe_var 0) fds_nil)))))))
theorem ok_p_step_of (T : Tx K mg) : FnS P w K mg base 7 T.p_step_of.f T.p_step_of.fd ["change"] d_p_step_of := by
  unfold d_p_step_of
  exact fn_mk T.p_step_of.fn sc_p_step_of fun cdv A outer s H E J hr => by
    have tk : Takes (cxOf (L2.CX P w) P w K mg base ["change", "sort", "longs", "order", "row"] "step_of" (defScope s_p_step_of) T.p_step_of.f cdv A outer s H E) (fun cls d _ H' => E cls d H') := takes_of rfl rfl rfl rfl
    have hps : PassesOwn (model P w) (cxOf (L2.CX P w) P w K mg base ["change", "sort", "longs", "order", "row"] "step_of" (defScope s_p_step_of) T.p_step_of.f cdv A outer s H E).A (cxOf (L2.CX P w) P w K mg base ["change", "sort", "longs", "order", "row"] "step_of" (defScope s_p_step_of) T.p_step_of.f cdv A outer s H E).env (cxOf (L2.CX P w) P w K mg base ["change", "sort", "longs", "order", "row"] "step_of" (defScope s_p_step_of) T.p_step_of.f cdv A outer s H E).xe := passes_of rfl
    skip
    exact (fss_cons (fs_unp (fe_call (ok_p_step_rows T) (hr.mono (by decide)) (by rfl) T.p_step_rows.m T.p_step_rows.fn.kp T.p_step_rows.b tk (fas_cons (fe_var 0) fas_nil)) (fg_tup rfl (fgs_cons (fg_name (i := 1) sc_p_step_of.nd) (fgs_cons (fg_name (i := 2) sc_p_step_of.nd) (fgs_cons (fg_name (i := 3) sc_p_step_of.nd) (fgs_cons (fg_name (i := 4) sc_p_step_of.nd) fgs_nil))))))
  (fss_one (fs_ret (fe_tup (fds_cons (fe_var 1) (fds_cons (fe_call (ok_p_named_anew T) (hr.mono (by decide)) (by rfl) T.p_named_anew.m T.p_named_anew.fn.kp T.p_named_anew.b tk (fas_cons (fe_ix (fe_var 0) fe_int) (fas_cons (fe_var 2) (fas_cons (fe_var 3) (fas_cons (fe_var 4) fas_nil))))) fds_nil))))))
theorem ok_p_steps_done (T : Tx K mg) : FnS P w K mg base 8 T.p_steps_done.f T.p_steps_done.fd ["change", "most"] d_p_steps_done := by
  unfold d_p_steps_done
  exact fn_mk T.p_steps_done.fn sc_p_steps_done fun cdv A outer s H E J hr => by
    have tk : Takes (cxOf (L2.CX P w) P w K mg base ["change", "most", "sorts", "sort"] "steps_done" (defScope s_p_steps_done) T.p_steps_done.f cdv A outer s H E) (fun cls d _ H' => E cls d H') := takes_of rfl rfl rfl rfl
    have hps : PassesOwn (model P w) (cxOf (L2.CX P w) P w K mg base ["change", "most", "sorts", "sort"] "steps_done" (defScope s_p_steps_done) T.p_steps_done.f cdv A outer s H E).A (cxOf (L2.CX P w) P w K mg base ["change", "most", "sorts", "sort"] "steps_done" (defScope s_p_steps_done) T.p_steps_done.f cdv A outer s H E).env (cxOf (L2.CX P w) P w K mg base ["change", "most", "sorts", "sort"] "steps_done" (defScope s_p_steps_done) T.p_steps_done.f cdv A outer s H E).xe := passes_of rfl
    skip
    exact (fss_cons (fs_expr (fe_call (ok_p_look_at_count T) (hr.mono (by decide)) (by rfl) T.p_look_at_count.m T.p_look_at_count.fn.kp T.p_look_at_count.b tk (fas_cons (fe_var 1) (fas_cons fe_int (fas_cons (fe_gc T.g_MOST_STEPS (by rfl)) fas_nil)))))
  (fss_cons (fs_set (i := 2) sc_p_steps_done.nd (fe_lst fds_nil))
  (fss_cons (fs_while hps (FW.ft (fw_and (ft_cmp op_lt op2_lt (nomark _) (fe_callB call_len opn_len (by rfl) T.z_len boot_len (fa_cons (fe_var 2) fa_nil)) (fe_var 1)) (fw_and1 (ft_not (ft_val (fe_call (ok_p_is_even T) (hr.mono (by decide)) (by rfl) T.p_is_even.m T.p_is_even.fn.kp T.p_is_even.b tk (fas_cons (fe_var 0) fas_nil))))))) (fss_cons (fs_unp (fe_call (ok_p_step_of T) (hr.mono (by decide)) (by rfl) T.p_step_of.m T.p_step_of.fn.kp T.p_step_of.b tk (fas_cons (fe_var 0) fas_nil)) (fg_tup rfl (fgs_cons (fg_name (i := 3) sc_p_steps_done.nd) (fgs_cons (fg_name (i := 0) sc_p_steps_done.nd) fgs_nil))))
  (fss_one (fs_expr (fe_mt (i := 2) F.slot_list_append F.type_list_append mt_append opm_append (fds_cons (fe_var 3) fds_nil))))))
  (fss_one (fs_ret (fe_tup (fds_cons (fe_var 2) (fds_cons (fe_var 0) fds_nil))))))))
theorem okN_p_steps_done (T : Tx K mg) : FnOk P w K mg base (L2.CX P w) 8 T.p_steps_done.f T.p_steps_done.fd ["change", "most"] (spN K mg d_p_steps_doneN) := by
  unfold d_p_steps_doneN
  exact fn_mkN T.p_steps_done.fn sc_p_steps_done fun cdv A outer s H E J hr => by
    have tk : Takes (cxOf (L2.CX P w) P w K mg base ["change", "most", "sorts", "sort"] "steps_done" (defScope s_p_steps_done) T.p_steps_done.f cdv A outer s H E) (fun cls d _ H' => E cls d H') := takes_of rfl rfl rfl rfl
    have hps : PassesOwn (model P w) (cxOf (L2.CX P w) P w K mg base ["change", "most", "sorts", "sort"] "steps_done" (defScope s_p_steps_done) T.p_steps_done.f cdv A outer s H E).A (cxOf (L2.CX P w) P w K mg base ["change", "most", "sorts", "sort"] "steps_done" (defScope s_p_steps_done) T.p_steps_done.f cdv A outer s H E).env (cxOf (L2.CX P w) P w K mg base ["change", "most", "sorts", "sort"] "steps_done" (defScope s_p_steps_done) T.p_steps_done.f cdv A outer s H E).xe := passes_of rfl
    skip
    exact (fsn_cons (fs_expr (fe_call (ok_p_look_at_count T) (hr.mono (by decide)) (by rfl) T.p_look_at_count.m T.p_look_at_count.fn.kp T.p_look_at_count.b tk (fas_cons (fe_var 1) (fas_cons fe_int (fas_cons (fe_gc T.g_MOST_STEPS (by rfl)) fas_nil)))))
  (fsn_cons (fs_set (i := 2) sc_p_steps_done.nd (fe_lst fds_nil))
  (fsn_cons (fs_while hps (FW.ft (fw_and (ft_cmp op_lt op2_lt (nomark _) (fe_callB call_len opn_len (by rfl) T.z_len boot_len (fa_cons (fe_var 2) fa_nil)) (fe_var 1)) (fw_and1 (ft_not (ft_val (fe_call (ok_p_is_even T) (hr.mono (by decide)) (by rfl) T.p_is_even.m T.p_is_even.fn.kp T.p_is_even.b tk (fas_cons (fe_var 0) fas_nil))))))) (fss_cons (fs_unp (fe_call (ok_p_step_of T) (hr.mono (by decide)) (by rfl) T.p_step_of.m T.p_step_of.fn.kp T.p_step_of.b tk (fas_cons (fe_var 0) fas_nil)) (fg_tup rfl (fgs_cons (fg_name (i := 3) sc_p_steps_done.nd) (fgs_cons (fg_name (i := 0) sc_p_steps_done.nd) fgs_nil))))
  (fss_one (fs_expr (fe_mt (i := 2) F.slot_list_append F.type_list_append mt_append opm_append (fds_cons (fe_var 3) fds_nil))))))
  (fsn_ret 2 0))))
theorem ok_said (T : Tx K mg) : FnS P w K mg base 9 T.said.f T.said.fd ["_law_change_here", "_law_thing"] d_said := by
  unfold d_said
  exact fn_mk T.said.fn sc_said fun cdv A outer s H E J hr => by
    have tk : Takes (cxOf (L2.CX P w) P w K mg base ["_law_change_here", "_law_thing", "_law_word", "_law_e"] "_law_said" (defScope s_said) T.said.f cdv A outer s H E) (fun cls d _ H' => E cls d H') := takes_of rfl rfl rfl rfl
    have hps : PassesOwn (model P w) (cxOf (L2.CX P w) P w K mg base ["_law_change_here", "_law_thing", "_law_word", "_law_e"] "_law_said" (defScope s_said) T.said.f cdv A outer s H E).A (cxOf (L2.CX P w) P w K mg base ["_law_change_here", "_law_thing", "_law_word", "_law_e"] "_law_said" (defScope s_said) T.said.f cdv A outer s H E).env (cxOf (L2.CX P w) P w K mg base ["_law_change_here", "_law_thing", "_law_word", "_law_e"] "_law_said" (defScope s_said) T.said.f cdv A outer s H E).xe := passes_of rfl
    skip
    exact (fss_cons (fs_set (i := 2) sc_said.nd fe_str)
  (fss_cons (fs_tryK (ie := 3) (iw := 2) rfl rfl sc_said.nd (by decide) ⟨by rfl, by decide, .inl T.c_StretchError.m⟩ tk (fun c w C h hm => kd_cases_kind h (fun e => by subst e; have z := hm.symm.trans T.e_NoNumber.m; cases z; exact T.m_NoNumber_StretchError) (fun e => by subst e; have z := hm.symm.trans T.e_NoStep.m; cases z; exact T.m_NoStep_StretchError)) (fun W' pn xe tk hps => (fss_one (fs_expr (fe_call (ok_p_steps_done T) (hr.mono (by decide)) (by rfl) T.p_steps_done.m T.p_steps_done.fn.kp T.p_steps_done.b tk (fas_cons (fe_var 0) (fas_cons (fe_var 1) fas_nil)))))) (fun a oe pn c w C h hm hz hf => kd_cases_kind h (fun e => by subst e; have z := hm.symm.trans T.e_NoNumber.m; cases z; obtain rfl := kd_word_kind_NoNumber h; have F := kind_kind_NoNumber (P := P) (w := w) (base := base) T (a, oe) hz hf; exact ⟨_, pss_one (ps_set (i := 2) sc_said.nd rfl (.inl rfl) (pe_callP (E := fun _ _ _ _ => False) F (roomHm (hr.mono (by decide)) _) List.mem_cons_self (by rfl) T.kind.m T.kind.fn.kp T.kind.b passE (pa_cons (pe_var (i := 3) rfl (.inl rfl)) pa_nil))), fun D σ H h q => suiteK (p := (a, oe)) h q⟩) (fun e => by subst e; have z := hm.symm.trans T.e_NoStep.m; cases z; obtain rfl := kd_word_kind_NoStep h; have F := kind_kind_NoStep (P := P) (w := w) (base := base) T (a, oe) hz hf; exact ⟨_, pss_one (ps_set (i := 2) sc_said.nd rfl (.inl rfl) (pe_callP (E := fun _ _ _ _ => False) F (roomHm (hr.mono (by decide)) _) List.mem_cons_self (by rfl) T.kind.m T.kind.fn.kp T.kind.b passE (pa_cons (pe_var (i := 3) rfl (.inl rfl)) pa_nil))), fun D σ H h q => suiteK (p := (a, oe)) h q⟩)))
  (fss_one (fs_ret (fe_var 2)))))
theorem ok_law (T : Tx K mg) : FnS P w K mg base 10 T.law.f T.law.fd ["_law_script"] d_law := by
  unfold d_law
  exact fn_mk T.law.fn sc_law fun cdv A outer s H E J hr => by
    have tk : Takes (cxOf (L2.CX P w) P w K mg base ["_law_script", "_law_k", "_law_box_here", "_law_change_here", "_law_most", "_law_due_here", "_law_turn", "_law_found", "_law_bad"] "law" (defScope s_law) T.law.f cdv A outer s H E) (fun cls d _ H' => E cls d H') := takes_of rfl rfl rfl rfl
    have hps : PassesOwn (model P w) (cxOf (L2.CX P w) P w K mg base ["_law_script", "_law_k", "_law_box_here", "_law_change_here", "_law_most", "_law_due_here", "_law_turn", "_law_found", "_law_bad"] "law" (defScope s_law) T.law.f cdv A outer s H E).A (cxOf (L2.CX P w) P w K mg base ["_law_script", "_law_k", "_law_box_here", "_law_change_here", "_law_most", "_law_due_here", "_law_turn", "_law_found", "_law_bad"] "law" (defScope s_law) T.law.f cdv A outer s H E).env (cxOf (L2.CX P w) P w K mg base ["_law_script", "_law_k", "_law_box_here", "_law_change_here", "_law_most", "_law_due_here", "_law_turn", "_law_found", "_law_bad"] "law" (defScope s_law) T.law.f cdv A outer s H E).xe := passes_of rfl
    have hu := hr.units
    exact (fss_cons (fs_for hps rfl (fi_range1 (by rfl) T.z_range (fds_cons (fe_callB (call_max2 rfl) opn_max2 (by rfl) T.z_max boot_max (fa_cons fe_int (fa_cons (fe_callB (call_min2 rfl) opn_min2 (by rfl) T.z_min boot_min (fa_cons (fe_callB call_len opn_len (by rfl) T.z_len boot_len (fa_cons (fe_var 0) fa_nil)) (fa_cons fe_int fa_nil))) fa_nil))) fds_nil)) (fg_name (i := 1) sc_law.nd) (fss_cons (fs_set (i := 2) sc_law.nd (fe_call (ok_box T) (hr.mono (by decide)) (by rfl) T.box.m T.box.fn.kp T.box.b tk (fas_cons (fe_var 0) (fas_cons (fe_var 1) fas_nil))))
  (fss_cons (fs_set (i := 3) sc_law.nd (fe_call (ok_change T) (hr.mono (by decide)) (by rfl) T.change.m T.change.fn.kp T.change.b tk (fas_box (i := 2) (fas_cons fe_int (fas_cons (fe_lst (fds_cons fe_int (fds_cons fe_int (fds_cons fe_int (fds_cons fe_int (fds_cons fe_int (fds_cons fe_int (fds_cons fe_int fds_nil)))))))) fas_nil)))))
  (fss_cons (fs_for hps rfl (fi_seq (fe_lst (fds_cons (fe_call (ok_take T) (hr.mono (by decide)) (by rfl) T.take.m T.take.fn.kp T.take.b tk (fas_box (i := 2) (fas_cons fe_int fas_nil))) (fds_cons fe_int (fds_cons (fe_ix (fe_lst (fds_cons fe_int (fds_cons fe_int fds_nil))) (fe_callTy call_int1 opn_int1 (by rfl) T.z_int boot_int (fa_cons (fe_cmp op_gt op2_gt (nomark _) (fe_ix (fe_var 3) fe_int) fe_int) fa_nil))) fds_nil))))) (fg_name (i := 4) sc_law.nd) (fss_cons (fs_set (i := 5) sc_law.nd (fe_call (ok_due T) (hr.mono (by decide)) (by rfl) T.due.m T.due.fn.kp T.due.b tk (fas_cons (fe_var 3) (fas_cons (fe_var 4) fas_nil))))
  (fss_one (fs_for hps rfl (fi_range1 (by rfl) T.z_range (fds_cons fe_int fds_nil)) (fg_name (i := 6) sc_law.nd) (fss_poke 7 3 4 sc_law.nd (okN_p_steps_done T) (hr.mono (by decide)) (by rfl) T.p_steps_done.m T.p_steps_done.fn.kp T.p_steps_done.b tk (FW.ft (fw_or (ft_not (ft_val (fe_isi (by rfl) T.z_isinstance (by rfl) T.z_tuple boot_tuple (fe_var 7)))) (fw_or (ft_cmp (op_neD hu) op2_ne (nomark _) (fe_var 7) (fe_var 5)) (fw_or1 (ft_not (ft_val (fe_isi (by rfl) T.z_isinstance (by rfl) T.z_list boot_list (fe_ix (fe_var 7) fe_int)))))))) (by repeat (first | exact Pure.var _ | exact Pure.val _ | apply Pure.fOr | apply Pure.fAnd | apply Pure.fNot | apply Pure.fB | apply Pure.bin | apply Pure.un)) (fss_one (fs_ret fe_bl)))))))
  (fss_cons (fs_set (i := 8) sc_law.nd (fe_ix (fe_lst (fds_cons (fe_un un_neg op1_neg fe_int) (fds_cons fe_int (fds_cons fe_bl (fds_cons fe_non (fds_cons fe_str (fds_cons (fe_tup (fds_cons fe_int fds_nil)) (fds_cons (fe_op op_pow op2_pow fe_int fe_int) (fds_cons fe_dnew fds_nil))))))))) (fe_call (ok_take T) (hr.mono (by decide)) (by rfl) T.take.m T.take.fn.kp T.take.b tk (fas_box (i := 2) (fas_cons fe_int fas_nil)))))
  (fss_one (fs_if (FW.ft (fw_or (ft_cmp (op_neD hu) op2_ne (nomark _) (fe_call (ok_said T) (hr.mono (by decide)) (by rfl) T.said.m T.said.fn.kp T.said.b tk (fas_cons (fe_var 3) (fas_cons (fe_var 8) fas_nil))) fe_str) (fw_or1 (ft_cmp (op_neD hu) op2_ne (nomark _) (fe_call (ok_said T) (hr.mono (by decide)) (by rfl) T.said.m T.said.fn.kp T.said.b tk (fas_cons (fe_var 3) (fas_cons fe_bl fas_nil))) fe_str)))) (fss_one (fs_ret fe_bl)) fss_nil)))))))
  (fss_one (fs_ret fe_bl)))
end
theorem all_mk {l : PySem.W.OpenLaw} {w : World} {K : PySem.W.Frag} {h : Heap} {mg : Str → Option Value} {fa : Addr} (X : K.In h) (G : h.Ns mainGlobals mg) (hfa : mg "law" = some (.ref fa))
    {f0 : Addr} {od0 an0 : Option Addr} {sl0 : Array (Option Value)} {oc0 kV0 dc0 pm0 cd0 ct0 : Value}
    (a0 : PySem.W.nsIn K mainGlobals "divisor" = some (some (.ref f0))) (l0 : K.lookup f0 = some ⟨oc0, od0, .func (PySem.W.fnOf "divisor" "divisor" (defArgs s_p_divisor) (defBody s_p_divisor) (defScope s_p_divisor) .none kV0 dc0 pm0 an0 cd0 ct0), sl0⟩) (c0 : PySem.W.codeIn K cd0 "divisor" = true) (k0 : PySem.W.keepIn K (.ref f0) = true)
    {f1 : Addr} {od1 an1 : Option Addr} {sl1 : Array (Option Value)} {oc1 kV1 dc1 pm1 cd1 ct1 : Value}
    (a1 : PySem.W.nsIn K mainGlobals "sign_of" = some (some (.ref f1))) (l1 : K.lookup f1 = some ⟨oc1, od1, .func (PySem.W.fnOf "sign_of" "sign_of" (defArgs s_p_sign_of) (defBody s_p_sign_of) (defScope s_p_sign_of) .none kV1 dc1 pm1 an1 cd1 ct1), sl1⟩) (c1 : PySem.W.codeIn K cd1 "sign_of" = true) (k1 : PySem.W.keepIn K (.ref f1) = true)
    {f2 : Addr} {od2 an2 : Option Addr} {sl2 : Array (Option Value)} {oc2 kV2 dc2 pm2 cd2 ct2 : Value}
    (a2 : PySem.W.nsIn K mainGlobals "look_at_count" = some (some (.ref f2))) (l2 : K.lookup f2 = some ⟨oc2, od2, .func (PySem.W.fnOf "look_at_count" "look_at_count" (defArgs s_p_look_at_count) (defBody s_p_look_at_count) (defScope s_p_look_at_count) .none kV2 dc2 pm2 an2 cd2 ct2), sl2⟩) (c2 : PySem.W.codeIn K cd2 "look_at_count" = true) (k2 : PySem.W.keepIn K (.ref f2) = true)
    {f3 : Addr} {od3 an3 : Option Addr} {sl3 : Array (Option Value)} {oc3 kV3 dc3 pm3 cd3 ct3 : Value}
    (a3 : PySem.W.nsIn K mainGlobals "is_even" = some (some (.ref f3))) (l3 : K.lookup f3 = some ⟨oc3, od3, .func (PySem.W.fnOf "is_even" "is_even" (defArgs s_p_is_even) (defBody s_p_is_even) (defScope s_p_is_even) .none kV3 dc3 pm3 an3 cd3 ct3), sl3⟩) (c3 : PySem.W.codeIn K cd3 "is_even" = true) (k3 : PySem.W.keepIn K (.ref f3) = true)
    {f4 : Addr} {od4 an4 : Option Addr} {sl4 : Array (Option Value)} {oc4 kV4 dc4 pm4 cd4 ct4 : Value}
    (a4 : PySem.W.nsIn K mainGlobals "put_behind" = some (some (.ref f4))) (l4 : K.lookup f4 = some ⟨oc4, od4, .func (PySem.W.fnOf "put_behind" "put_behind" (defArgs s_p_put_behind) (defBody s_p_put_behind) (defScope s_p_put_behind) .none kV4 dc4 pm4 an4 cd4 ct4), sl4⟩) (c4 : PySem.W.codeIn K cd4 "put_behind" = true) (k4 : PySem.W.keepIn K (.ref f4) = true)
    {f5 : Addr} {od5 an5 : Option Addr} {sl5 : Array (Option Value)} {oc5 kV5 dc5 pm5 cd5 ct5 : Value}
    (a5 : PySem.W.nsIn K mainGlobals "named_anew" = some (some (.ref f5))) (l5 : K.lookup f5 = some ⟨oc5, od5, .func (PySem.W.fnOf "named_anew" "named_anew" (defArgs s_p_named_anew) (defBody s_p_named_anew) (defScope s_p_named_anew) .none kV5 dc5 pm5 an5 cd5 ct5), sl5⟩) (c5 : PySem.W.codeIn K cd5 "named_anew" = true) (k5 : PySem.W.keepIn K (.ref f5) = true)
    {f6 : Addr} {od6 an6 : Option Addr} {sl6 : Array (Option Value)} {oc6 kV6 dc6 pm6 cd6 ct6 : Value}
    (a6 : PySem.W.nsIn K mainGlobals "_law_cell" = some (some (.ref f6))) (l6 : K.lookup f6 = some ⟨oc6, od6, .func (PySem.W.fnOf "_law_cell" "_law_cell" (defArgs s_cell) (defBody s_cell) (defScope s_cell) .none kV6 dc6 pm6 an6 cd6 ct6), sl6⟩) (c6 : PySem.W.codeIn K cd6 "_law_cell" = true) (k6 : PySem.W.keepIn K (.ref f6) = true)
    {f7 : Addr} {od7 an7 : Option Addr} {sl7 : Array (Option Value)} {oc7 kV7 dc7 pm7 cd7 ct7 : Value}
    (a7 : PySem.W.nsIn K mainGlobals "_law_mix" = some (some (.ref f7))) (l7 : K.lookup f7 = some ⟨oc7, od7, .func (PySem.W.fnOf "_law_mix" "_law_mix" (defArgs s_mix) (defBody s_mix) (defScope s_mix) .none kV7 dc7 pm7 an7 cd7 ct7), sl7⟩) (c7 : PySem.W.codeIn K cd7 "_law_mix" = true) (k7 : PySem.W.keepIn K (.ref f7) = true)
    {f8 : Addr} {od8 an8 : Option Addr} {sl8 : Array (Option Value)} {oc8 kV8 dc8 pm8 cd8 ct8 : Value}
    (a8 : PySem.W.nsIn K mainGlobals "_law_take" = some (some (.ref f8))) (l8 : K.lookup f8 = some ⟨oc8, od8, .func (PySem.W.fnOf "_law_take" "_law_take" (defArgs s_take) (defBody s_take) (defScope s_take) .none kV8 dc8 pm8 an8 cd8 ct8), sl8⟩) (c8 : PySem.W.codeIn K cd8 "_law_take" = true) (k8 : PySem.W.keepIn K (.ref f8) = true)
    {f9 : Addr} {od9 an9 : Option Addr} {sl9 : Array (Option Value)} {oc9 kV9 dc9 pm9 cd9 ct9 : Value}
    (a9 : PySem.W.nsIn K mainGlobals "_law_fit" = some (some (.ref f9))) (l9 : K.lookup f9 = some ⟨oc9, od9, .func (PySem.W.fnOf "_law_fit" "_law_fit" (defArgs s_fit) (defBody s_fit) (defScope s_fit) .none kV9 dc9 pm9 an9 cd9 ct9), sl9⟩) (c9 : PySem.W.codeIn K cd9 "_law_fit" = true) (k9 : PySem.W.keepIn K (.ref f9) = true)
    {f10 : Addr} {od10 an10 : Option Addr} {sl10 : Array (Option Value)} {oc10 kV10 dc10 pm10 cd10 ct10 : Value}
    (a10 : PySem.W.nsIn K mainGlobals "_law_kind" = some (some (.ref f10))) (l10 : K.lookup f10 = some ⟨oc10, od10, .func (PySem.W.fnOf "_law_kind" "_law_kind" (defArgs s_kind) (defBody s_kind) (defScope s_kind) .none kV10 dc10 pm10 an10 cd10 ct10), sl10⟩) (c10 : PySem.W.codeIn K cd10 "_law_kind" = true) (k10 : PySem.W.keepIn K (.ref f10) = true)
    {f11 : Addr} {od11 an11 : Option Addr} {sl11 : Array (Option Value)} {oc11 kV11 dc11 pm11 cd11 ct11 : Value}
    (a11 : PySem.W.nsIn K mainGlobals "lowest" = some (some (.ref f11))) (l11 : K.lookup f11 = some ⟨oc11, od11, .func (PySem.W.fnOf "lowest" "lowest" (defArgs s_p_lowest) (defBody s_p_lowest) (defScope s_p_lowest) .none kV11 dc11 pm11 an11 cd11 ct11), sl11⟩) (c11 : PySem.W.codeIn K cd11 "lowest" = true) (k11 : PySem.W.keepIn K (.ref f11) = true)
    {f12 : Addr} {od12 an12 : Option Addr} {sl12 : Array (Option Value)} {oc12 kV12 dc12 pm12 cd12 ct12 : Value}
    (a12 : PySem.W.nsIn K mainGlobals "_law_box" = some (some (.ref f12))) (l12 : K.lookup f12 = some ⟨oc12, od12, .func (PySem.W.fnOf "_law_box" "_law_box" (defArgs s_box) (defBody s_box) (defScope s_box) .none kV12 dc12 pm12 an12 cd12 ct12), sl12⟩) (c12 : PySem.W.codeIn K cd12 "_law_box" = true) (k12 : PySem.W.keepIn K (.ref f12) = true)
    {f13 : Addr} {od13 an13 : Option Addr} {sl13 : Array (Option Value)} {oc13 kV13 dc13 pm13 cd13 ct13 : Value}
    (a13 : PySem.W.nsIn K mainGlobals "_law_plus" = some (some (.ref f13))) (l13 : K.lookup f13 = some ⟨oc13, od13, .func (PySem.W.fnOf "_law_plus" "_law_plus" (defArgs s_plus) (defBody s_plus) (defScope s_plus) .none kV13 dc13 pm13 an13 cd13 ct13), sl13⟩) (c13 : PySem.W.codeIn K cd13 "_law_plus" = true) (k13 : PySem.W.keepIn K (.ref f13) = true)
    {f14 : Addr} {od14 an14 : Option Addr} {sl14 : Array (Option Value)} {oc14 kV14 dc14 pm14 cd14 ct14 : Value}
    (a14 : PySem.W.nsIn K mainGlobals "plus" = some (some (.ref f14))) (l14 : K.lookup f14 = some ⟨oc14, od14, .func (PySem.W.fnOf "plus" "plus" (defArgs s_p_plus) (defBody s_p_plus) (defScope s_p_plus) .none kV14 dc14 pm14 an14 cd14 ct14), sl14⟩) (c14 : PySem.W.codeIn K cd14 "plus" = true) (k14 : PySem.W.keepIn K (.ref f14) = true)
    {f15 : Addr} {od15 an15 : Option Addr} {sl15 : Array (Option Value)} {oc15 kV15 dc15 pm15 cd15 ct15 : Value}
    (a15 : PySem.W.nsIn K mainGlobals "_law_minus" = some (some (.ref f15))) (l15 : K.lookup f15 = some ⟨oc15, od15, .func (PySem.W.fnOf "_law_minus" "_law_minus" (defArgs s_minus) (defBody s_minus) (defScope s_minus) .none kV15 dc15 pm15 an15 cd15 ct15), sl15⟩) (c15 : PySem.W.codeIn K cd15 "_law_minus" = true) (k15 : PySem.W.keepIn K (.ref f15) = true)
    {f16 : Addr} {od16 an16 : Option Addr} {sl16 : Array (Option Value)} {oc16 kV16 dc16 pm16 cd16 ct16 : Value}
    (a16 : PySem.W.nsIn K mainGlobals "minus" = some (some (.ref f16))) (l16 : K.lookup f16 = some ⟨oc16, od16, .func (PySem.W.fnOf "minus" "minus" (defArgs s_p_minus) (defBody s_p_minus) (defScope s_p_minus) .none kV16 dc16 pm16 an16 cd16 ct16), sl16⟩) (c16 : PySem.W.codeIn K cd16 "minus" = true) (k16 : PySem.W.keepIn K (.ref f16) = true)
    {f17 : Addr} {od17 an17 : Option Addr} {sl17 : Array (Option Value)} {oc17 kV17 dc17 pm17 cd17 ct17 : Value}
    (a17 : PySem.W.nsIn K mainGlobals "_law_less" = some (some (.ref f17))) (l17 : K.lookup f17 = some ⟨oc17, od17, .func (PySem.W.fnOf "_law_less" "_law_less" (defArgs s_less) (defBody s_less) (defScope s_less) .none kV17 dc17 pm17 an17 cd17 ct17), sl17⟩) (c17 : PySem.W.codeIn K cd17 "_law_less" = true) (k17 : PySem.W.keepIn K (.ref f17) = true)
    {f18 : Addr} {od18 an18 : Option Addr} {sl18 : Array (Option Value)} {oc18 kV18 dc18 pm18 cd18 ct18 : Value}
    (a18 : PySem.W.nsIn K mainGlobals "less" = some (some (.ref f18))) (l18 : K.lookup f18 = some ⟨oc18, od18, .func (PySem.W.fnOf "less" "less" (defArgs s_p_less) (defBody s_p_less) (defScope s_p_less) .none kV18 dc18 pm18 an18 cd18 ct18), sl18⟩) (c18 : PySem.W.codeIn K cd18 "less" = true) (k18 : PySem.W.keepIn K (.ref f18) = true)
    {f19 : Addr} {od19 an19 : Option Addr} {sl19 : Array (Option Value)} {oc19 kV19 dc19 pm19 cd19 ct19 : Value}
    (a19 : PySem.W.nsIn K mainGlobals "_law_long" = some (some (.ref f19))) (l19 : K.lookup f19 = some ⟨oc19, od19, .func (PySem.W.fnOf "_law_long" "_law_long" (defArgs s_long) (defBody s_long) (defScope s_long) .none kV19 dc19 pm19 an19 cd19 ct19), sl19⟩) (c19 : PySem.W.codeIn K cd19 "_law_long" = true) (k19 : PySem.W.keepIn K (.ref f19) = true)
    {f20 : Addr} {od20 an20 : Option Addr} {sl20 : Array (Option Value)} {oc20 kV20 dc20 pm20 cd20 ct20 : Value}
    (a20 : PySem.W.nsIn K mainGlobals "_law_lesser" = some (some (.ref f20))) (l20 : K.lookup f20 = some ⟨oc20, od20, .func (PySem.W.fnOf "_law_lesser" "_law_lesser" (defArgs s_lesser) (defBody s_lesser) (defScope s_lesser) .none kV20 dc20 pm20 an20 cd20 ct20), sl20⟩) (c20 : PySem.W.codeIn K cd20 "_law_lesser" = true) (k20 : PySem.W.keepIn K (.ref f20) = true)
    {f21 : Addr} {od21 an21 : Option Addr} {sl21 : Array (Option Value)} {oc21 kV21 dc21 pm21 cd21 ct21 : Value}
    (a21 : PySem.W.nsIn K mainGlobals "step_rows" = some (some (.ref f21))) (l21 : K.lookup f21 = some ⟨oc21, od21, .func (PySem.W.fnOf "step_rows" "step_rows" (defArgs s_p_step_rows) (defBody s_p_step_rows) (defScope s_p_step_rows) .none kV21 dc21 pm21 an21 cd21 ct21), sl21⟩) (c21 : PySem.W.codeIn K cd21 "step_rows" = true) (k21 : PySem.W.keepIn K (.ref f21) = true)
    {f22 : Addr} {od22 an22 : Option Addr} {sl22 : Array (Option Value)} {oc22 kV22 dc22 pm22 cd22 ct22 : Value}
    (a22 : PySem.W.nsIn K mainGlobals "_law_change" = some (some (.ref f22))) (l22 : K.lookup f22 = some ⟨oc22, od22, .func (PySem.W.fnOf "_law_change" "_law_change" (defArgs s_change) (defBody s_change) (defScope s_change) .none kV22 dc22 pm22 an22 cd22 ct22), sl22⟩) (c22 : PySem.W.codeIn K cd22 "_law_change" = true) (k22 : PySem.W.keepIn K (.ref f22) = true)
    {f23 : Addr} {od23 an23 : Option Addr} {sl23 : Array (Option Value)} {oc23 kV23 dc23 pm23 cd23 ct23 : Value}
    (a23 : PySem.W.nsIn K mainGlobals "_law_due" = some (some (.ref f23))) (l23 : K.lookup f23 = some ⟨oc23, od23, .func (PySem.W.fnOf "_law_due" "_law_due" (defArgs s_due) (defBody s_due) (defScope s_due) .none kV23 dc23 pm23 an23 cd23 ct23), sl23⟩) (c23 : PySem.W.codeIn K cd23 "_law_due" = true) (k23 : PySem.W.keepIn K (.ref f23) = true)
    {f24 : Addr} {od24 an24 : Option Addr} {sl24 : Array (Option Value)} {oc24 kV24 dc24 pm24 cd24 ct24 : Value}
    (a24 : PySem.W.nsIn K mainGlobals "step_of" = some (some (.ref f24))) (l24 : K.lookup f24 = some ⟨oc24, od24, .func (PySem.W.fnOf "step_of" "step_of" (defArgs s_p_step_of) (defBody s_p_step_of) (defScope s_p_step_of) .none kV24 dc24 pm24 an24 cd24 ct24), sl24⟩) (c24 : PySem.W.codeIn K cd24 "step_of" = true) (k24 : PySem.W.keepIn K (.ref f24) = true)
    {f25 : Addr} {od25 an25 : Option Addr} {sl25 : Array (Option Value)} {oc25 kV25 dc25 pm25 cd25 ct25 : Value}
    (a25 : PySem.W.nsIn K mainGlobals "steps_done" = some (some (.ref f25))) (l25 : K.lookup f25 = some ⟨oc25, od25, .func (PySem.W.fnOf "steps_done" "steps_done" (defArgs s_p_steps_done) (defBody s_p_steps_done) (defScope s_p_steps_done) .none kV25 dc25 pm25 an25 cd25 ct25), sl25⟩) (c25 : PySem.W.codeIn K cd25 "steps_done" = true) (k25 : PySem.W.keepIn K (.ref f25) = true)
    {f26 : Addr} {od26 an26 : Option Addr} {sl26 : Array (Option Value)} {oc26 kV26 dc26 pm26 cd26 ct26 : Value}
    (a26 : PySem.W.nsIn K mainGlobals "_law_said" = some (some (.ref f26))) (l26 : K.lookup f26 = some ⟨oc26, od26, .func (PySem.W.fnOf "_law_said" "_law_said" (defArgs s_said) (defBody s_said) (defScope s_said) .none kV26 dc26 pm26 an26 cd26 ct26), sl26⟩) (c26 : PySem.W.codeIn K cd26 "_law_said" = true) (k26 : PySem.W.keepIn K (.ref f26) = true)
    {f27 : Addr} {od27 an27 : Option Addr} {sl27 : Array (Option Value)} {oc27 kV27 dc27 pm27 cd27 ct27 : Value}
    (a27 : PySem.W.nsIn K mainGlobals "law" = some (some (.ref f27))) (l27 : K.lookup f27 = some ⟨oc27, od27, .func (PySem.W.fnOf "law" "law" (defArgs s_law) (defBody s_law) (defScope s_law) .none kV27 dc27 pm27 an27 cd27 ct27), sl27⟩) (c27 : PySem.W.codeIn K cd27 "law" = true) (k27 : PySem.W.keepIn K (.ref f27) = true)
    {CcNoChange : Addr} (yc_NoChange : PySem.W.nsIn K mainGlobals "NoChange" = some (some (.ref CcNoChange)))
    {CcNoNumber : Addr} (yc_NoNumber : PySem.W.nsIn K mainGlobals "NoNumber" = some (some (.ref CcNoNumber)))
    {CcNoPoint : Addr} (yc_NoPoint : PySem.W.nsIn K mainGlobals "NoPoint" = some (some (.ref CcNoPoint)))
    {CcNoStep : Addr} (yc_NoStep : PySem.W.nsIn K mainGlobals "NoStep" = some (some (.ref CcNoStep)))
    {CcNoWord : Addr} (yc_NoWord : PySem.W.nsIn K mainGlobals "NoWord" = some (some (.ref CcNoWord)))
    {CcStretchError : Addr} (yc_StretchError : PySem.W.nsIn K mainGlobals "StretchError" = some (some (.ref CcStretchError)))
    {CcTooMany : Addr} (yc_TooMany : PySem.W.nsIn K mainGlobals "TooMany" = some (some (.ref CcTooMany)))
    {CcUnlike : Addr} (yc_Unlike : PySem.W.nsIn K mainGlobals "Unlike" = some (some (.ref CcUnlike)))
    {CeNoNumber : Addr} (ye_NoNumber : PySem.W.nsIn K mainGlobals "NoNumber" = some (some (.ref CeNoNumber))) (yq_NoNumber : PySem.W.excIn K CeNoNumber [.type "ValueError", .type "Exception", .type "BaseException", .type "object"] "ValueError.__new__" = true) (yk_NoNumber : PySem.W.keepIn K (.ref CeNoNumber) = true) (yb_NoNumber : PySem.W.subIn K (.ref CeNoNumber) (.type "BaseException") = some true) (yt_NoNumber : PySem.W.typeIn K (.ref CeNoNumber) = some (.type "type"))
    (yx1_NoNumber : PySem.W.findIn K (.ref CeNoNumber) "__getattribute__" = some (some (.builtin "BaseException.__getattribute__"))) (yx2_NoNumber : PySem.W.findIn K (.ref CeNoNumber) "__getattr__" = some none) (yx4_NoNumber : PySem.W.hasDictIn K CeNoNumber = true) (yx5_NoNumber : PySem.W.findIn K (.ref CeNoNumber) "__class__" = some (some (.builtin "object.__class__"))) (yx8_NoNumber : PySem.W.mroIn K CeNoNumber (.type "object") = some true)
    (ym_NoNumber_StretchError : PySem.W.exmOne K (.ref CeNoNumber) (.ref CcStretchError) = some true)
    (yi_NoNumber_NoChange : PySem.W.kitOne K (.ref CeNoNumber) (.ref CcNoChange) = some false)
    (yi_NoNumber_NoNumber : PySem.W.kitOne K (.ref CeNoNumber) (.ref CcNoNumber) = some true)
    (yi_NoNumber_NoPoint : PySem.W.kitOne K (.ref CeNoNumber) (.ref CcNoPoint) = some false)
    (yi_NoNumber_NoStep : PySem.W.kitOne K (.ref CeNoNumber) (.ref CcNoStep) = some false)
    (yi_NoNumber_NoWord : PySem.W.kitOne K (.ref CeNoNumber) (.ref CcNoWord) = some false)
    (yi_NoNumber_TooMany : PySem.W.kitOne K (.ref CeNoNumber) (.ref CcTooMany) = some false)
    (yi_NoNumber_Unlike : PySem.W.kitOne K (.ref CeNoNumber) (.ref CcUnlike) = some false)
    {CeNoStep : Addr} (ye_NoStep : PySem.W.nsIn K mainGlobals "NoStep" = some (some (.ref CeNoStep))) (yq_NoStep : PySem.W.excIn K CeNoStep [.type "ValueError", .type "Exception", .type "BaseException", .type "object"] "ValueError.__new__" = true) (yk_NoStep : PySem.W.keepIn K (.ref CeNoStep) = true) (yb_NoStep : PySem.W.subIn K (.ref CeNoStep) (.type "BaseException") = some true) (yt_NoStep : PySem.W.typeIn K (.ref CeNoStep) = some (.type "type"))
    (yx1_NoStep : PySem.W.findIn K (.ref CeNoStep) "__getattribute__" = some (some (.builtin "BaseException.__getattribute__"))) (yx2_NoStep : PySem.W.findIn K (.ref CeNoStep) "__getattr__" = some none) (yx4_NoStep : PySem.W.hasDictIn K CeNoStep = true) (yx5_NoStep : PySem.W.findIn K (.ref CeNoStep) "__class__" = some (some (.builtin "object.__class__"))) (yx8_NoStep : PySem.W.mroIn K CeNoStep (.type "object") = some true)
    (ym_NoStep_StretchError : PySem.W.exmOne K (.ref CeNoStep) (.ref CcStretchError) = some true)
    (yi_NoStep_NoChange : PySem.W.kitOne K (.ref CeNoStep) (.ref CcNoChange) = some false)
    (yi_NoStep_NoNumber : PySem.W.kitOne K (.ref CeNoStep) (.ref CcNoNumber) = some false)
    (yi_NoStep_NoPoint : PySem.W.kitOne K (.ref CeNoStep) (.ref CcNoPoint) = some false)
    (yi_NoStep_NoStep : PySem.W.kitOne K (.ref CeNoStep) (.ref CcNoStep) = some true)
    (yi_NoStep_NoWord : PySem.W.kitOne K (.ref CeNoStep) (.ref CcNoWord) = some false)
    (yi_NoStep_TooMany : PySem.W.kitOne K (.ref CeNoStep) (.ref CcTooMany) = some false)
    (yi_NoStep_Unlike : PySem.W.kitOne K (.ref CeNoStep) (.ref CcUnlike) = some false)
    (yx6 : PySem.W.specialIn K (.builtin "object.__class__") "__get__" = some (some (.builtin "getset_descriptor.__get__"))) (yx7 : PySem.W.takesIn K (.builtin "object.__class__") = some true)
    {tgMOST_STEPS : Tok} (yg_MOST_STEPS : PySem.W.nsIn K mainGlobals "MOST_STEPS" = some (some (.int 200 tgMOST_STEPS)))
    (z_abs : PySem.W.nsIn K mainGlobals "abs" = some none)
    (z_bool : PySem.W.nsIn K mainGlobals "bool" = some none)
    (z_divmod : PySem.W.nsIn K mainGlobals "divmod" = some none)
    (z_int : PySem.W.nsIn K mainGlobals "int" = some none)
    (z_isinstance : PySem.W.nsIn K mainGlobals "isinstance" = some none)
    (z_len : PySem.W.nsIn K mainGlobals "len" = some none)
    (z_list : PySem.W.nsIn K mainGlobals "list" = some none)
    (z_max : PySem.W.nsIn K mainGlobals "max" = some none)
    (z_min : PySem.W.nsIn K mainGlobals "min" = some none)
    (z_range : PySem.W.nsIn K mainGlobals "range" = some none)
    (z_tuple : PySem.W.nsIn K mainGlobals "tuple" = some none)
    : ∃ fd : FuncData, (∀ (s : Shared) (v : Value), BindsTo s fd ⟨[v], []⟩ [("_law_script", v)]) ∧ ∀ base : Heap, FnS l.prog w K mg base 10 fa fd ["_law_script"] d_law := by
  have e := hfa.symm.trans (PySem.W.mg_of X G a27)
  cases e
  have F0 := fun_mk (st := s_p_divisor) l0 c0 k0
  have b0 := F0.binds (ps := ["one", "other"]) fun _ _ _ _ _ _ us hl => match us, hl with | [_, _], _ => rfl
  have F1 := fun_mk (st := s_p_sign_of) l1 c1 k1
  have b1 := F1.binds (ps := ["root", "one"]) fun _ _ _ _ _ _ us hl => match us, hl with | [_, _], _ => rfl
  have F2 := fun_mk (st := s_p_look_at_count) l2 c2 k2
  have b2 := F2.binds (ps := ["thing", "least", "most"]) fun _ _ _ _ _ _ us hl => match us, hl with | [_, _, _], _ => rfl
  have F3 := fun_mk (st := s_p_is_even) l3 c3 k3
  have b3 := F3.binds (ps := ["change"]) fun _ _ _ _ _ _ us hl => match us, hl with | [_], _ => rfl
  have F4 := fun_mk (st := s_p_put_behind) l4 c4 k4
  have b4 := F4.binds (ps := ["row", "thing", "other"]) fun _ _ _ _ _ _ us hl => match us, hl with | [_, _, _], _ => rfl
  have F5 := fun_mk (st := s_p_named_anew) l5 c5 k5
  have b5 := F5.binds (ps := ["root", "longs", "order", "row"]) fun _ _ _ _ _ _ us hl => match us, hl with | [_, _, _, _], _ => rfl
  have F6 := fun_mk (st := s_cell) l6 c6 k6
  have b6 := F6.binds (ps := ["_law_script", "_law_k"]) fun _ _ _ _ _ _ us hl => match us, hl with | [_, _], _ => rfl
  have F7 := fun_mk (st := s_mix) l7 c7 k7
  have b7 := F7.binds (ps := ["_law_cell_here", "_law_k"]) fun _ _ _ _ _ _ us hl => match us, hl with | [_, _], _ => rfl
  have F8 := fun_mk (st := s_take) l8 c8 k8
  have b8 := F8.binds (ps := ["_law_box_here", "_law_many"]) fun _ _ _ _ _ _ us hl => match us, hl with | [_, _], _ => rfl
  have F9 := fun_mk (st := s_fit) l9 c9 k9
  have b9 := F9.binds (ps := ["_law_a", "_law_b", "_law_c"]) fun _ _ _ _ _ _ us hl => match us, hl with | [_, _, _], _ => rfl
  have F10 := fun_mk (st := s_kind) l10 c10 k10
  have b10 := F10.binds (ps := ["_law_e"]) fun _ _ _ _ _ _ us hl => match us, hl with | [_], _ => rfl
  have F11 := fun_mk (st := s_p_lowest) l11 c11 k11
  have b11 := F11.binds (ps := ["a", "b", "c"]) fun _ _ _ _ _ _ us hl => match us, hl with | [_, _, _], _ => rfl
  have F12 := fun_mk (st := s_box) l12 c12 k12
  have b12 := F12.binds (ps := ["_law_script", "_law_k"]) fun _ _ _ _ _ _ us hl => match us, hl with | [_, _], _ => rfl
  have F13 := fun_mk (st := s_plus) l13 c13 k13
  have b13 := F13.binds (ps := ["_law_one", "_law_other"]) fun _ _ _ _ _ _ us hl => match us, hl with | [_, _], _ => rfl
  have F14 := fun_mk (st := s_p_plus) l14 c14 k14
  have b14 := F14.binds (ps := ["root", "one", "other"]) fun _ _ _ _ _ _ us hl => match us, hl with | [_, _, _], _ => rfl
  have F15 := fun_mk (st := s_minus) l15 c15 k15
  have b15 := F15.binds (ps := ["_law_one", "_law_other"]) fun _ _ _ _ _ _ us hl => match us, hl with | [_, _], _ => rfl
  have F16 := fun_mk (st := s_p_minus) l16 c16 k16
  have b16 := F16.binds (ps := ["root", "one", "other"]) fun _ _ _ _ _ _ us hl => match us, hl with | [_, _, _], _ => rfl
  have F17 := fun_mk (st := s_less) l17 c17 k17
  have b17 := F17.binds (ps := ["_law_root", "_law_one", "_law_other"]) fun _ _ _ _ _ _ us hl => match us, hl with | [_, _, _], _ => rfl
  have F18 := fun_mk (st := s_p_less) l18 c18 k18
  have b18 := F18.binds (ps := ["root", "one", "other"]) fun _ _ _ _ _ _ us hl => match us, hl with | [_, _, _], _ => rfl
  have F19 := fun_mk (st := s_long) l19 c19 k19
  have b19 := F19.binds (ps := ["_law_box_here", "_law_root"]) fun _ _ _ _ _ _ us hl => match us, hl with | [_, _], _ => rfl
  have F20 := fun_mk (st := s_lesser) l20 c20 k20
  have b20 := F20.binds (ps := ["_law_change_here"]) fun _ _ _ _ _ _ us hl => match us, hl with | [_], _ => rfl
  have F21 := fun_mk (st := s_p_step_rows) l21 c21 k21
  have b21 := F21.binds (ps := ["change"]) fun _ _ _ _ _ _ us hl => match us, hl with | [_], _ => rfl
  have F22 := fun_mk (st := s_change) l22 c22 k22
  have b22 := F22.binds (ps := ["_law_box_here", "_law_most", "_law_roots"]) fun _ _ _ _ _ _ us hl => match us, hl with | [_, _, _], _ => rfl
  have F23 := fun_mk (st := s_due) l23 c23 k23
  have b23 := F23.binds (ps := ["_law_change_here", "_law_most"]) fun _ _ _ _ _ _ us hl => match us, hl with | [_, _], _ => rfl
  have F24 := fun_mk (st := s_p_step_of) l24 c24 k24
  have b24 := F24.binds (ps := ["change"]) fun _ _ _ _ _ _ us hl => match us, hl with | [_], _ => rfl
  have F25 := fun_mk (st := s_p_steps_done) l25 c25 k25
  have b25 := F25.binds (ps := ["change", "most"]) fun _ _ _ _ _ _ us hl => match us, hl with | [_, _], _ => rfl
  have F26 := fun_mk (st := s_said) l26 c26 k26
  have b26 := F26.binds (ps := ["_law_change_here", "_law_thing"]) fun _ _ _ _ _ _ us hl => match us, hl with | [_, _], _ => rfl
  have F27 := fun_mk (st := s_law) l27 c27 k27
  have b27 := F27.binds (ps := ["_law_script"]) fun _ _ _ _ _ _ us hl => match us, hl with | [_], _ => rfl
  exact ⟨_, fun s v => .of_eq rfl, fun base => ok_law (T := {
    p_divisor := ⟨_, _, F0, b0, PySem.W.mg_of X G a0⟩
    p_sign_of := ⟨_, _, F1, b1, PySem.W.mg_of X G a1⟩
    p_look_at_count := ⟨_, _, F2, b2, PySem.W.mg_of X G a2⟩
    p_is_even := ⟨_, _, F3, b3, PySem.W.mg_of X G a3⟩
    p_put_behind := ⟨_, _, F4, b4, PySem.W.mg_of X G a4⟩
    p_named_anew := ⟨_, _, F5, b5, PySem.W.mg_of X G a5⟩
    cell := ⟨_, _, F6, b6, PySem.W.mg_of X G a6⟩
    mix := ⟨_, _, F7, b7, PySem.W.mg_of X G a7⟩
    take := ⟨_, _, F8, b8, PySem.W.mg_of X G a8⟩
    fit := ⟨_, _, F9, b9, PySem.W.mg_of X G a9⟩
    kind := ⟨_, _, F10, b10, PySem.W.mg_of X G a10⟩
    p_lowest := ⟨_, _, F11, b11, PySem.W.mg_of X G a11⟩
    box := ⟨_, _, F12, b12, PySem.W.mg_of X G a12⟩
    plus := ⟨_, _, F13, b13, PySem.W.mg_of X G a13⟩
    p_plus := ⟨_, _, F14, b14, PySem.W.mg_of X G a14⟩
    minus := ⟨_, _, F15, b15, PySem.W.mg_of X G a15⟩
    p_minus := ⟨_, _, F16, b16, PySem.W.mg_of X G a16⟩
    less := ⟨_, _, F17, b17, PySem.W.mg_of X G a17⟩
    p_less := ⟨_, _, F18, b18, PySem.W.mg_of X G a18⟩
    long := ⟨_, _, F19, b19, PySem.W.mg_of X G a19⟩
    lesser := ⟨_, _, F20, b20, PySem.W.mg_of X G a20⟩
    p_step_rows := ⟨_, _, F21, b21, PySem.W.mg_of X G a21⟩
    change := ⟨_, _, F22, b22, PySem.W.mg_of X G a22⟩
    due := ⟨_, _, F23, b23, PySem.W.mg_of X G a23⟩
    p_step_of := ⟨_, _, F24, b24, PySem.W.mg_of X G a24⟩
    p_steps_done := ⟨_, _, F25, b25, PySem.W.mg_of X G a25⟩
    said := ⟨_, _, F26, b26, PySem.W.mg_of X G a26⟩
    law := ⟨_, _, F27, b27, PySem.W.mg_of X G a27⟩
    c_NoChange := ⟨_, PySem.W.mg_of X G yc_NoChange⟩
    c_NoNumber := ⟨_, PySem.W.mg_of X G yc_NoNumber⟩
    c_NoPoint := ⟨_, PySem.W.mg_of X G yc_NoPoint⟩
    c_NoStep := ⟨_, PySem.W.mg_of X G yc_NoStep⟩
    c_NoWord := ⟨_, PySem.W.mg_of X G yc_NoWord⟩
    c_StretchError := ⟨_, PySem.W.mg_of X G yc_StretchError⟩
    c_TooMany := ⟨_, PySem.W.mg_of X G yc_TooMany⟩
    c_Unlike := ⟨_, PySem.W.mg_of X G yc_Unlike⟩
    e_NoNumber := ⟨_, PySem.W.mg_of X G ye_NoNumber, yq_NoNumber, yk_NoNumber, yb_NoNumber, yt_NoNumber⟩
    x_NoNumber := ⟨yx1_NoNumber, yx2_NoNumber, yb_NoNumber, yx4_NoNumber, yx5_NoNumber, yx6, yx7, yx8_NoNumber⟩
    m_NoNumber_StretchError := ym_NoNumber_StretchError
    i_NoNumber_NoChange := yi_NoNumber_NoChange
    i_NoNumber_NoNumber := yi_NoNumber_NoNumber
    i_NoNumber_NoPoint := yi_NoNumber_NoPoint
    i_NoNumber_NoStep := yi_NoNumber_NoStep
    i_NoNumber_NoWord := yi_NoNumber_NoWord
    i_NoNumber_TooMany := yi_NoNumber_TooMany
    i_NoNumber_Unlike := yi_NoNumber_Unlike
    e_NoStep := ⟨_, PySem.W.mg_of X G ye_NoStep, yq_NoStep, yk_NoStep, yb_NoStep, yt_NoStep⟩
    x_NoStep := ⟨yx1_NoStep, yx2_NoStep, yb_NoStep, yx4_NoStep, yx5_NoStep, yx6, yx7, yx8_NoStep⟩
    m_NoStep_StretchError := ym_NoStep_StretchError
    i_NoStep_NoChange := yi_NoStep_NoChange
    i_NoStep_NoNumber := yi_NoStep_NoNumber
    i_NoStep_NoPoint := yi_NoStep_NoPoint
    i_NoStep_NoStep := yi_NoStep_NoStep
    i_NoStep_NoWord := yi_NoStep_NoWord
    i_NoStep_TooMany := yi_NoStep_TooMany
    i_NoStep_Unlike := yi_NoStep_Unlike
    g_MOST_STEPS := gc_int (PySem.W.mg_of X G yg_MOST_STEPS)
    z_abs := PySem.W.mg_none_of X G z_abs
    z_bool := PySem.W.mg_none_of X G z_bool
    z_divmod := PySem.W.mg_none_of X G z_divmod
    z_int := PySem.W.mg_none_of X G z_int
    z_isinstance := PySem.W.mg_none_of X G z_isinstance
    z_len := PySem.W.mg_none_of X G z_len
    z_list := PySem.W.mg_none_of X G z_list
    z_max := PySem.W.mg_none_of X G z_max
    z_min := PySem.W.mg_none_of X G z_min
    z_range := PySem.W.mg_none_of X G z_range
    z_tuple := PySem.W.mg_none_of X G z_tuple
  })⟩
end Fx.L

namespace Fx.L
open PySem PySem.Spec PyProof.Rows L2
/-! ### the script's cells, boxes -/
theorem take_eq {n m : Int} (h : divOk n m = true) : d_take [.own 1 (.list [.int n]), .dat (.int m)] = some (.inr (false, .int (n.fmod m)), [.own 1 (.list [.int (n.fdiv m)]), .no]) := by
  simp only [d_take, mkFn, sCons, sSet, sPar, sUnp, sIf, sRet, sRetN, sDrop, sNil, sBrk, sCnt, bndS, bnd, rt, opt, fVar, fVal, fBin, fUn, rd1, rd2, Rv.rd, Sl.rd, fD, fzM, Rv.fz, fCons, fNil, dCons, dNil, aCons, aNil, aBoxN, aBox, fCall, resolve, boxes, bxpos, wb, fNm, rdAll, fTup, fLst, hAdd, hSub, hInt2, hMulL, hLt, hLe, hGt, hGe, hNeg, hAbs, hLen, hInt1, hMax2, hMin2, hIx, fSl, oNone, oSome, hSl, fB, toB, fAnd, fOr, fNot, fAndV, fOrV, fNotV, fChain, kName, kTup, kCons, kNil, slOk, sStore, fMt, mtGo, hApp, hFdiv, hMod, hDivmod, outs, List.length_cons, List.length_nil, List.getElem?_cons_zero, List.getElem?_cons_succ, List.getElem?_nil, List.set_cons_zero, List.set_cons_succ, List.replicate_succ, List.replicate_zero, List.cons_append, List.nil_append, Option.bind_some, Option.map_some, cond_true, cond_false, ite_true, ite_false, Nat.reduceAdd, Nat.reduceSub, Nat.reduceEqDiff, Nat.reduceLeDiff, if_true, if_false, reduceIte, atI_n0, atI_n1, atI_n2, atI_n3, ixN_10, ixN_20, ixN_21, hEq_int, hNe_int, Bool.not_true, decide_true, decide_false, hTuple, sTryK, sRaise, Bool.false_eq_true, Bool.not_false, sz0, sz1, sz2, sz3, sz4, sz5, sz6, sz7, sz8, h]
/-- a digit below m -/
theorem take_ex (n : Int) {m : Int} (h0 : 0 < m) (h1 : m < 2 ^ 64) : ∃ n' d : Int, 0 ≤ d ∧ d < m ∧ d_take [.own 1 (.list [.int n]), .dat (.int m)] = some (.inr (false, .int d), [.own 1 (.list [.int n']), .no]) :=
  ⟨n.fdiv m, n.fmod m, Int.fmod_nonneg_of_pos n h0, Int.fmod_lt_of_pos n h0, take_eq (divOk_64 (by omega) (by omega))⟩
abbrev Bit20 (ns : List Int) : Prop := ∀ z ∈ ns, Builtin.Int.intBits z ≤ 1048576
theorem cell_ex (ns : List Int) (hb : Bit20 ns) (k : Nat) (hk : k ≤ 1000) : ∃ c : Int, Builtin.Int.intBits c ≤ 1048576 ∧ d_cell [.dat (.dict [(.none, .list (ns.map PyData.int))]), .dat (.int k)] = some (.inr (false, .int c), [.no, .no]) := by
  by_cases h : k < ns.length
  · refine ⟨ns[k], hb _ (List.getElem_mem h), ?_⟩
    have e : decide ((k : Int) < ((ns.map PyData.int).length : Nat)) = true := decide_eq_true (by rw [List.length_map]; omega)
    have e2 : (ns.map PyData.int)[k]? = some (.int ns[k]) := by rw [List.getElem?_map, List.getElem?_eq_getElem h]; rfl
    simp only [d_cell, mkFn, sCons, sSet, sPar, sUnp, sIf, sRet, sRetN, sDrop, sNil, sBrk, sCnt, bndS, bnd, rt, opt, fVar, fVal, fBin, fUn, rd1, rd2, Rv.rd, Sl.rd, fD, fzM, Rv.fz, fCons, fNil, dCons, dNil, aCons, aNil, aBoxN, aBox, fCall, resolve, boxes, bxpos, wb, fNm, rdAll, fTup, fLst, hAdd, hSub, hInt2, hMulL, hLt, hLe, hGt, hGe, hNeg, hAbs, hLen, hInt1, hMax2, hMin2, hIx, fSl, oNone, oSome, hSl, fB, toB, fAnd, fOr, fNot, fAndV, fOrV, fNotV, fChain, kName, kTup, kCons, kNil, slOk, sStore, fMt, mtGo, hApp, hFdiv, hMod, hDivmod, outs, List.length_cons, List.length_nil, List.getElem?_cons_zero, List.getElem?_cons_succ, List.getElem?_nil, List.set_cons_zero, List.set_cons_succ, List.replicate_succ, List.replicate_zero, List.cons_append, List.nil_append, Option.bind_some, Option.map_some, cond_true, cond_false, ite_true, ite_false, Nat.reduceAdd, Nat.reduceSub, Nat.reduceEqDiff, Nat.reduceLeDiff, if_true, if_false, reduceIte, atI_n0, atI_n1, atI_n2, atI_n3, ixN_10, ixN_20, ixN_21, hEq_int, hNe_int, Bool.not_true, decide_true, decide_false, hTuple, sTryK, sRaise, Bool.false_eq_true, Bool.not_false, sz0, sz1, sz2, sz3, sz4, sz5, sz6, sz7, sz8, e, e2, atI_natE]
  · refine ⟨6151 * k + 29, bits64 (by omega) (by decide), ?_⟩
    have e : decide ((k : Int) < ((ns.map PyData.int).length : Nat)) = false := decide_eq_false (by rw [List.length_map]; omega)
    have e2 : mulOk 6151 (k : Int) = true := mulOk_l (by decide)
    simp only [d_cell, mkFn, sCons, sSet, sPar, sUnp, sIf, sRet, sRetN, sDrop, sNil, sBrk, sCnt, bndS, bnd, rt, opt, fVar, fVal, fBin, fUn, rd1, rd2, Rv.rd, Sl.rd, fD, fzM, Rv.fz, fCons, fNil, dCons, dNil, aCons, aNil, aBoxN, aBox, fCall, resolve, boxes, bxpos, wb, fNm, rdAll, fTup, fLst, hAdd, hSub, hInt2, hMulL, hLt, hLe, hGt, hGe, hNeg, hAbs, hLen, hInt1, hMax2, hMin2, hIx, fSl, oNone, oSome, hSl, fB, toB, fAnd, fOr, fNot, fAndV, fOrV, fNotV, fChain, kName, kTup, kCons, kNil, slOk, sStore, fMt, mtGo, hApp, hFdiv, hMod, hDivmod, outs, List.length_cons, List.length_nil, List.getElem?_cons_zero, List.getElem?_cons_succ, List.getElem?_nil, List.set_cons_zero, List.set_cons_succ, List.replicate_succ, List.replicate_zero, List.cons_append, List.nil_append, Option.bind_some, Option.map_some, cond_true, cond_false, ite_true, ite_false, Nat.reduceAdd, Nat.reduceSub, Nat.reduceEqDiff, Nat.reduceLeDiff, if_true, if_false, reduceIte, atI_n0, atI_n1, atI_n2, atI_n3, ixN_10, ixN_20, ixN_21, hEq_int, hNe_int, Bool.not_true, decide_true, decide_false, hTuple, sTryK, sRaise, Bool.false_eq_true, Bool.not_false, sz0, sz1, sz2, sz3, sz4, sz5, sz6, sz7, sz8, e, e2]
theorem mix_ex (c : Int) (hc : Builtin.Int.intBits c ≤ 1048576) (k : Nat) (hk : k ≤ 1000) : ∃ r : Int, r.natAbs < 2 ^ 32 ∧ d_mix [.dat (.int c), .dat (.int k)] = some (.inr (false, .int r), [.no, .no]) := by
  have e1 : mulOk (c + 1) 40692 = true := mulOk_r (by decide)
  have e2 : mulOk 104729 (k : Int) = true := mulOk_l (by decide)
  have b1 : Builtin.Int.intBits (c + 1) ≤ 1048577 := PySem.intBits_add_le (m := 1048576) (n := 1048576) hc (bits64 (by decide) (by decide))
  have b2 : Builtin.Int.intBits ((c + 1) * 40692) ≤ 1048577 + 16 := PySem.intBits_mul_le b1 (bits_le (by decide))
  have b3 : Builtin.Int.intBits (104729 * (k : Int)) ≤ 1048577 + 16 := bits64 (by omega) (by decide)
  have b4 : Builtin.Int.intBits ((c + 1) * 40692 + 104729 * (k : Int)) ≤ 1048594 := Nat.le_trans (PySem.intBits_add_le b2 b3) (by decide)
  have e3 : mulOk ((c + 1) * 40692 + 104729 * (k : Int)) ((c + 1) * 40692 + 104729 * (k : Int)) = true := mulOk_b (by omega)
  have r1 : 0 ≤ (((c + 1) * 40692 + 104729 * (k : Int)) * ((c + 1) * 40692 + 104729 * (k : Int))).fmod 2147483399 := Int.fmod_nonneg_of_pos _ (by decide)
  have r2 : (((c + 1) * 40692 + 104729 * (k : Int)) * ((c + 1) * 40692 + 104729 * (k : Int))).fmod 2147483399 < 2147483399 := Int.fmod_lt_of_pos _ (by decide)
  have e4 : ∀ y : Int, mulOk ((((c + 1) * 40692 + 104729 * (k : Int)) * ((c + 1) * 40692 + 104729 * (k : Int))).fmod 2147483399 + (k : Int)) y = true := fun y => mulOk_l (by omega)
  have m1 : ((2147483399 : Int) != 0) = true := by decide
  have m2 : ((2147483563 : Int) != 0) = true := by decide
  refine ⟨_, ?_, by simp only [d_mix, mkFn, sCons, sSet, sPar, sUnp, sIf, sRet, sRetN, sDrop, sNil, sBrk, sCnt, bndS, bnd, rt, opt, fVar, fVal, fBin, fUn, rd1, rd2, Rv.rd, Sl.rd, fD, fzM, Rv.fz, fCons, fNil, dCons, dNil, aCons, aNil, aBoxN, aBox, fCall, resolve, boxes, bxpos, wb, fNm, rdAll, fTup, fLst, hAdd, hSub, hInt2, hMulL, hLt, hLe, hGt, hGe, hNeg, hAbs, hLen, hInt1, hMax2, hMin2, hIx, fSl, oNone, oSome, hSl, fB, toB, fAnd, fOr, fNot, fAndV, fOrV, fNotV, fChain, kName, kTup, kCons, kNil, slOk, sStore, fMt, mtGo, hApp, hFdiv, hMod, hDivmod, outs, List.length_cons, List.length_nil, List.getElem?_cons_zero, List.getElem?_cons_succ, List.getElem?_nil, List.set_cons_zero, List.set_cons_succ, List.replicate_succ, List.replicate_zero, List.cons_append, List.nil_append, Option.bind_some, Option.map_some, cond_true, cond_false, ite_true, ite_false, Nat.reduceAdd, Nat.reduceSub, Nat.reduceEqDiff, Nat.reduceLeDiff, if_true, if_false, reduceIte, atI_n0, atI_n1, atI_n2, atI_n3, ixN_10, ixN_20, ixN_21, hEq_int, hNe_int, Bool.not_true, decide_true, decide_false, hTuple, sTryK, sRaise, Bool.false_eq_true, Bool.not_false, sz0, sz1, sz2, sz3, sz4, sz5, sz6, sz7, sz8, e1, e2, e3, e4, m1, m2]; rfl⟩
  have x1 := Int.fmod_nonneg_of_pos (((((c + 1) * 40692 + 104729 * (k : Int)) * ((c + 1) * 40692 + 104729 * (k : Int))).fmod 2147483399 + (k : Int)) * ((((c + 1) * 40692 + 104729 * (k : Int)) * ((c + 1) * 40692 + 104729 * (k : Int))).fmod 2147483399 + (k : Int) + 31)) (show (0 : Int) < 2147483563 by decide)
  have x2 := Int.fmod_lt_of_pos (((((c + 1) * 40692 + 104729 * (k : Int)) * ((c + 1) * 40692 + 104729 * (k : Int))).fmod 2147483399 + (k : Int)) * ((((c + 1) * 40692 + 104729 * (k : Int)) * ((c + 1) * 40692 + 104729 * (k : Int))).fmod 2147483399 + (k : Int) + 31)) (show (0 : Int) < 2147483563 by decide)
  omega
theorem rng_nat (n : Nat) : rng 0 n = (List.range n).map fun i => PyData.int (i : Nat) := by
  unfold rng
  refine List.map_congr_left fun i _ => ?_
  rw [Int.zero_add]
theorem box_turn (sc : D) (k c : Int) (hc : Builtin.Int.intBits c ≤ 1048576) (B : SM) (hB : B = sSet 3 (fBin hAdd (fBin hMulL (fVar 3) (fVal (.int 2147483647))) (fCall d_mix (aCons (fVar 2) (aCons (fVar 4) aNil))))) :
    ∀ (l : List Nat) (x : Int) (s4 : Sl), (∀ i ∈ l, i ≤ 1000) → ∃ (y : Int) (s4' : Sl), forL (kName 4) B (l.map fun i => PyData.int (i : Nat)) [.dat sc, .dat (.int k), .dat (.int c), .dat (.int x), s4] = some (.nx, [.dat sc, .dat (.int k), .dat (.int c), .dat (.int y), s4'])
  | [], x, s4, _ => ⟨x, s4, rfl⟩
  | i :: l, x, s4, h => by
    obtain ⟨r, hr, er⟩ := mix_ex c hc i (h i List.mem_cons_self)
    have e1 : mulOk x 2147483647 = true := mulOk_r (by decide)
    obtain ⟨y, s4', ih⟩ := box_turn sc k c hc B hB l (x * 2147483647 + r) (.dat (.int i)) fun j hj => h j (List.mem_cons_of_mem _ hj)
    refine ⟨y, s4', ?_⟩
    rw [List.map_cons, forL_nx (fs1 := [.dat sc, .dat (.int k), .dat (.int c), .dat (.int x), .dat (.int i)]) (fs2 := [.dat sc, .dat (.int k), .dat (.int c), .dat (.int (x * 2147483647 + r)), .dat (.int i)]) rfl (by rw [hB]; simp only [mkFn, sCons, sSet, sPar, sUnp, sIf, sRet, sRetN, sDrop, sNil, sBrk, sCnt, bndS, bnd, rt, opt, fVar, fVal, fBin, fUn, rd1, rd2, Rv.rd, Sl.rd, fD, fzM, Rv.fz, fCons, fNil, dCons, dNil, aCons, aNil, aBoxN, aBox, fCall, resolve, boxes, bxpos, wb, fNm, rdAll, fTup, fLst, hAdd, hSub, hInt2, hMulL, hLt, hLe, hGt, hGe, hNeg, hAbs, hLen, hInt1, hMax2, hMin2, hIx, fSl, oNone, oSome, hSl, fB, toB, fAnd, fOr, fNot, fAndV, fOrV, fNotV, fChain, kName, kTup, kCons, kNil, slOk, sStore, fMt, mtGo, hApp, hFdiv, hMod, hDivmod, outs, List.length_cons, List.length_nil, List.getElem?_cons_zero, List.getElem?_cons_succ, List.getElem?_nil, List.set_cons_zero, List.set_cons_succ, List.replicate_succ, List.replicate_zero, List.cons_append, List.nil_append, Option.bind_some, Option.map_some, cond_true, cond_false, ite_true, ite_false, Nat.reduceAdd, Nat.reduceSub, Nat.reduceEqDiff, Nat.reduceLeDiff, if_true, if_false, reduceIte, atI_n0, atI_n1, atI_n2, atI_n3, ixN_10, ixN_20, ixN_21, hEq_int, hNe_int, Bool.not_true, decide_true, decide_false, hTuple, sTryK, sRaise, Bool.false_eq_true, Bool.not_false, sz0, sz1, sz2, sz3, sz4, sz5, sz6, sz7, sz8, e1, er])]
    exact ih
theorem box_ex (ns : List Int) (hb : Bit20 ns) (k : Nat) (hk : k ≤ 900) : ∃ n : Int, d_box [.dat (.dict [(.none, .list (ns.map PyData.int))]), .dat (.int k)] = some (.inr (true, .list [.int n]), [.no, .no]) := by
  obtain ⟨c, hc, ec⟩ := cell_ex ns hb k (by omega)
  have m1 : ((2 : Int) != 0) = true := by decide
  have m2 : divOk c 2 = true := divOk_64 (by decide) (by decide)
  cases e : decide (c.fmod 2 = 0) with
  | true => exact ⟨_, by simp only [d_box, mkFn, sCons, sSet, sPar, sUnp, sIf, sRet, sRetN, sDrop, sNil, sBrk, sCnt, bndS, bnd, rt, opt, fVar, fVal, fBin, fUn, rd1, rd2, Rv.rd, Sl.rd, fD, fzM, Rv.fz, fCons, fNil, dCons, dNil, aCons, aNil, aBoxN, aBox, fCall, resolve, boxes, bxpos, wb, fNm, rdAll, fTup, fLst, hAdd, hSub, hInt2, hMulL, hLt, hLe, hGt, hGe, hNeg, hAbs, hLen, hInt1, hMax2, hMin2, hIx, fSl, oNone, oSome, hSl, fB, toB, fAnd, fOr, fNot, fAndV, fOrV, fNotV, fChain, kName, kTup, kCons, kNil, slOk, sStore, fMt, mtGo, hApp, hFdiv, hMod, hDivmod, outs, List.length_cons, List.length_nil, List.getElem?_cons_zero, List.getElem?_cons_succ, List.getElem?_nil, List.set_cons_zero, List.set_cons_succ, List.replicate_succ, List.replicate_zero, List.cons_append, List.nil_append, Option.bind_some, Option.map_some, cond_true, cond_false, ite_true, ite_false, Nat.reduceAdd, Nat.reduceSub, Nat.reduceEqDiff, Nat.reduceLeDiff, if_true, if_false, reduceIte, atI_n0, atI_n1, atI_n2, atI_n3, ixN_10, ixN_20, ixN_21, hEq_int, hNe_int, Bool.not_true, decide_true, decide_false, hTuple, sTryK, sRaise, Bool.false_eq_true, Bool.not_false, sz0, sz1, sz2, sz3, sz4, sz5, sz6, sz7, sz8, ec, m1, m2, e]; rfl⟩
  | false =>
    obtain ⟨y, s4, ih⟩ := box_turn (.dict [(.none, .list (ns.map PyData.int))]) k c hc _ rfl (List.range 24) 0 .no fun i hi => by have := List.mem_range.mp hi; omega
    have er : fiR1 (dCons (fVal (.int 24)) dNil) [.dat (.dict [(.none, .list (ns.map PyData.int))]), .dat (.int k), .dat (.int c), .dat (.int 0), .no] = some (.inr ((List.range 24).map fun i => PyData.int (i : Nat)), [.dat (.dict [(.none, .list (ns.map PyData.int))]), .dat (.int k), .dat (.int c), .dat (.int 0), .no]) := by
      rw [← rng_nat]
      rfl
    refine ⟨y, ?_⟩
    unfold d_box
    refine mkFn_ret (fs := [.dat (.dict [(.none, .list (ns.map PyData.int))]), .dat (.int k), .dat (.int c), .dat (.int y), s4]) rfl ?_
    rw [sCons_nx (fs1 := [.dat (.dict [(.none, .list (ns.map PyData.int))]), .dat (.int k), .dat (.int c), .no, .no]) (by simp only [mkFn, sCons, sSet, sPar, sUnp, sIf, sRet, sRetN, sDrop, sNil, sBrk, sCnt, bndS, bnd, rt, opt, fVar, fVal, fBin, fUn, rd1, rd2, Rv.rd, Sl.rd, fD, fzM, Rv.fz, fCons, fNil, dCons, dNil, aCons, aNil, aBoxN, aBox, fCall, resolve, boxes, bxpos, wb, fNm, rdAll, fTup, fLst, hAdd, hSub, hInt2, hMulL, hLt, hLe, hGt, hGe, hNeg, hAbs, hLen, hInt1, hMax2, hMin2, hIx, fSl, oNone, oSome, hSl, fB, toB, fAnd, fOr, fNot, fAndV, fOrV, fNotV, fChain, kName, kTup, kCons, kNil, slOk, sStore, fMt, mtGo, hApp, hFdiv, hMod, hDivmod, outs, List.length_cons, List.length_nil, List.getElem?_cons_zero, List.getElem?_cons_succ, List.getElem?_nil, List.set_cons_zero, List.set_cons_succ, List.replicate_succ, List.replicate_zero, List.cons_append, List.nil_append, Option.bind_some, Option.map_some, cond_true, cond_false, ite_true, ite_false, Nat.reduceAdd, Nat.reduceSub, Nat.reduceEqDiff, Nat.reduceLeDiff, if_true, if_false, reduceIte, atI_n0, atI_n1, atI_n2, atI_n3, ixN_10, ixN_20, ixN_21, hEq_int, hNe_int, Bool.not_true, decide_true, decide_false, hTuple, sTryK, sRaise, Bool.false_eq_true, Bool.not_false, sz0, sz1, sz2, sz3, sz4, sz5, sz6, sz7, sz8, ec])]
    rw [sCons_nx (fs1 := [.dat (.dict [(.none, .list (ns.map PyData.int))]), .dat (.int k), .dat (.int c), .no, .no]) (by simp only [mkFn, sCons, sSet, sPar, sUnp, sIf, sRet, sRetN, sDrop, sNil, sBrk, sCnt, bndS, bnd, rt, opt, fVar, fVal, fBin, fUn, rd1, rd2, Rv.rd, Sl.rd, fD, fzM, Rv.fz, fCons, fNil, dCons, dNil, aCons, aNil, aBoxN, aBox, fCall, resolve, boxes, bxpos, wb, fNm, rdAll, fTup, fLst, hAdd, hSub, hInt2, hMulL, hLt, hLe, hGt, hGe, hNeg, hAbs, hLen, hInt1, hMax2, hMin2, hIx, fSl, oNone, oSome, hSl, fB, toB, fAnd, fOr, fNot, fAndV, fOrV, fNotV, fChain, kName, kTup, kCons, kNil, slOk, sStore, fMt, mtGo, hApp, hFdiv, hMod, hDivmod, outs, List.length_cons, List.length_nil, List.getElem?_cons_zero, List.getElem?_cons_succ, List.getElem?_nil, List.set_cons_zero, List.set_cons_succ, List.replicate_succ, List.replicate_zero, List.cons_append, List.nil_append, Option.bind_some, Option.map_some, cond_true, cond_false, ite_true, ite_false, Nat.reduceAdd, Nat.reduceSub, Nat.reduceEqDiff, Nat.reduceLeDiff, if_true, if_false, reduceIte, atI_n0, atI_n1, atI_n2, atI_n3, ixN_10, ixN_20, ixN_21, hEq_int, hNe_int, Bool.not_true, decide_true, decide_false, hTuple, sTryK, sRaise, Bool.false_eq_true, Bool.not_false, sz0, sz1, sz2, sz3, sz4, sz5, sz6, sz7, sz8, m1, m2, e])]
    rw [sCons_nx (fs1 := [.dat (.dict [(.none, .list (ns.map PyData.int))]), .dat (.int k), .dat (.int c), .dat (.int 0), .no]) (by simp only [mkFn, sCons, sSet, sPar, sUnp, sIf, sRet, sRetN, sDrop, sNil, sBrk, sCnt, bndS, bnd, rt, opt, fVar, fVal, fBin, fUn, rd1, rd2, Rv.rd, Sl.rd, fD, fzM, Rv.fz, fCons, fNil, dCons, dNil, aCons, aNil, aBoxN, aBox, fCall, resolve, boxes, bxpos, wb, fNm, rdAll, fTup, fLst, hAdd, hSub, hInt2, hMulL, hLt, hLe, hGt, hGe, hNeg, hAbs, hLen, hInt1, hMax2, hMin2, hIx, fSl, oNone, oSome, hSl, fB, toB, fAnd, fOr, fNot, fAndV, fOrV, fNotV, fChain, kName, kTup, kCons, kNil, slOk, sStore, fMt, mtGo, hApp, hFdiv, hMod, hDivmod, outs, List.length_cons, List.length_nil, List.getElem?_cons_zero, List.getElem?_cons_succ, List.getElem?_nil, List.set_cons_zero, List.set_cons_succ, List.replicate_succ, List.replicate_zero, List.cons_append, List.nil_append, Option.bind_some, Option.map_some, cond_true, cond_false, ite_true, ite_false, Nat.reduceAdd, Nat.reduceSub, Nat.reduceEqDiff, Nat.reduceLeDiff, if_true, if_false, reduceIte, atI_n0, atI_n1, atI_n2, atI_n3, ixN_10, ixN_20, ixN_21, hEq_int, hNe_int, Bool.not_true, decide_true, decide_false, hTuple, sTryK, sRaise, Bool.false_eq_true, Bool.not_false, sz0, sz1, sz2, sz3, sz4, sz5, sz6, sz7, sz8])]
    rw [sCons_nx (fs1 := [.dat (.dict [(.none, .list (ns.map PyData.int))]), .dat (.int k), .dat (.int c), .dat (.int y), s4]) (by rw [sFor_of er]; exact ih)]
    simp only [mkFn, sCons, sSet, sPar, sUnp, sIf, sRet, sRetN, sDrop, sNil, sBrk, sCnt, bndS, bnd, rt, opt, fVar, fVal, fBin, fUn, rd1, rd2, Rv.rd, Sl.rd, fD, fzM, Rv.fz, fCons, fNil, dCons, dNil, aCons, aNil, aBoxN, aBox, fCall, resolve, boxes, bxpos, wb, fNm, rdAll, fTup, fLst, hAdd, hSub, hInt2, hMulL, hLt, hLe, hGt, hGe, hNeg, hAbs, hLen, hInt1, hMax2, hMin2, hIx, fSl, oNone, oSome, hSl, fB, toB, fAnd, fOr, fNot, fAndV, fOrV, fNotV, fChain, kName, kTup, kCons, kNil, slOk, sStore, fMt, mtGo, hApp, hFdiv, hMod, hDivmod, outs, List.length_cons, List.length_nil, List.getElem?_cons_zero, List.getElem?_cons_succ, List.getElem?_nil, List.set_cons_zero, List.set_cons_succ, List.replicate_succ, List.replicate_zero, List.cons_append, List.nil_append, Option.bind_some, Option.map_some, cond_true, cond_false, ite_true, ite_false, Nat.reduceAdd, Nat.reduceSub, Nat.reduceEqDiff, Nat.reduceLeDiff, if_true, if_false, reduceIte, atI_n0, atI_n1, atI_n2, atI_n3, ixN_10, ixN_20, ixN_21, hEq_int, hNe_int, Bool.not_true, decide_true, decide_false, hTuple, sTryK, sRaise, Bool.false_eq_true, Bool.not_false, sz0, sz1, sz2, sz3, sz4, sz5, sz6, sz7, sz8]
/-! ### numbers in lowest terms -/
def g3 (a b c : Int) : Nat := Nat.gcd (Nat.gcd a.natAbs b.natAbs) c.natAbs
abbrev tup3 (a b c : Int) : D := .tuple [.int a, .int b, .int c]
def lowD (a b c : Int) : D := tup3 (a.fdiv (g3 a b c)) (b.fdiv (g3 a b c)) (c.fdiv (g3 a b c))
theorem abs_nat (i : Int) : (if i < 0 then -i else i) = ((i.natAbs : Nat) : Int) := by split <;> omega
theorem fmod_nat (m o : Nat) : (m : Int).fmod (o : Int) = ((m % o : Nat) : Int) := by
  rw [Int.fmod_eq_emod_of_nonneg _ (Int.natCast_nonneg o)]
  rfl
theorem gcd_loop (A B C : Sl) : ∀ (o m : Nat), sWhile (fB (fBin hGt (fVar 4) (fVal (.int 0)))) (sPar 3 4 (dCons (fVar 4) (dCons (fBin hMod (fVar 3) (fVar 4)) dNil))) [A, B, C, .dat (.int (m : Nat)), .dat (.int (o : Nat))] = some (.nx, [A, B, C, .dat (.int (Nat.gcd m o : Nat)), .dat (.int 0)]) := by
  intro o
  induction o using Nat.strongRecOn with
  | ind o ih =>
    intro m
    by_cases h : o = 0
    · subst h
      rw [Nat.gcd_zero_right]
      exact sWhile_stop rfl
    · have hp : 0 < o := Nat.pos_of_ne_zero h
      have e1 : decide ((0 : Int) < (o : Nat)) = true := decide_eq_true (by omega)
      have e2 : (((o : Nat) : Int) != 0) = true := by simpa using h
      have := ih (m % o) (Nat.mod_lt m hp) o
      rw [Nat.gcd_comm m o, Nat.gcd_rec o m, Nat.gcd_comm] 
      rw [sWhile_turn (fs1 := [A, B, C, .dat (.int (m : Nat)), .dat (.int (o : Nat))]) (fs2 := [A, B, C, .dat (.int (o : Nat)), .dat (.int (m % o : Nat))]) (by simp only [mkFn, sCons, sSet, sPar, sUnp, sIf, sRet, sRetN, sDrop, sNil, sBrk, sCnt, bndS, bnd, rt, opt, fVar, fVal, fBin, fUn, rd1, rd2, Rv.rd, Sl.rd, fD, fzM, Rv.fz, fCons, fNil, dCons, dNil, aCons, aNil, aBoxN, aBox, fCall, resolve, boxes, bxpos, wb, fNm, rdAll, fTup, fLst, hAdd, hSub, hInt2, hMulL, hLt, hLe, hGt, hGe, hNeg, hAbs, hLen, hInt1, hMax2, hMin2, hIx, fSl, oNone, oSome, hSl, fB, toB, fAnd, fOr, fNot, fAndV, fOrV, fNotV, fChain, kName, kTup, kCons, kNil, slOk, sStore, fMt, mtGo, hApp, hFdiv, hMod, hDivmod, outs, List.length_cons, List.length_nil, List.getElem?_cons_zero, List.getElem?_cons_succ, List.getElem?_nil, List.set_cons_zero, List.set_cons_succ, List.replicate_succ, List.replicate_zero, List.cons_append, List.nil_append, Option.bind_some, Option.map_some, cond_true, cond_false, ite_true, ite_false, Nat.reduceAdd, Nat.reduceSub, Nat.reduceEqDiff, Nat.reduceLeDiff, if_true, if_false, reduceIte, atI_n0, atI_n1, atI_n2, atI_n3, ixN_10, ixN_20, ixN_21, hEq_int, hNe_int, Bool.not_true, decide_true, decide_false, hTuple, sTryK, sRaise, Bool.false_eq_true, Bool.not_false, sz0, sz1, sz2, sz3, sz4, sz5, sz6, sz7, sz8, e1]) (by simp only [mkFn, sCons, sSet, sPar, sUnp, sIf, sRet, sRetN, sDrop, sNil, sBrk, sCnt, bndS, bnd, rt, opt, fVar, fVal, fBin, fUn, rd1, rd2, Rv.rd, Sl.rd, fD, fzM, Rv.fz, fCons, fNil, dCons, dNil, aCons, aNil, aBoxN, aBox, fCall, resolve, boxes, bxpos, wb, fNm, rdAll, fTup, fLst, hAdd, hSub, hInt2, hMulL, hLt, hLe, hGt, hGe, hNeg, hAbs, hLen, hInt1, hMax2, hMin2, hIx, fSl, oNone, oSome, hSl, fB, toB, fAnd, fOr, fNot, fAndV, fOrV, fNotV, fChain, kName, kTup, kCons, kNil, slOk, sStore, fMt, mtGo, hApp, hFdiv, hMod, hDivmod, outs, List.length_cons, List.length_nil, List.getElem?_cons_zero, List.getElem?_cons_succ, List.getElem?_nil, List.set_cons_zero, List.set_cons_succ, List.replicate_succ, List.replicate_zero, List.cons_append, List.nil_append, Option.bind_some, Option.map_some, cond_true, cond_false, ite_true, ite_false, Nat.reduceAdd, Nat.reduceSub, Nat.reduceEqDiff, Nat.reduceLeDiff, if_true, if_false, reduceIte, atI_n0, atI_n1, atI_n2, atI_n3, ixN_10, ixN_20, ixN_21, hEq_int, hNe_int, Bool.not_true, decide_true, decide_false, hTuple, sTryK, sRaise, Bool.false_eq_true, Bool.not_false, sz0, sz1, sz2, sz3, sz4, sz5, sz6, sz7, sz8, e2, fmod_nat])]
      exact this
theorem g3_pos {a b c : Int} (hc : 0 < c) : 0 < g3 a b c := Nat.gcd_pos_of_pos_right _ (by omega)
theorem g3_le {a b c : Int} (hc : 0 < c) : g3 a b c ≤ c.natAbs := Nat.gcd_le_right _ (by omega)
theorem g3_bits {a b c : Int} {k : Nat} (hc : 0 < c) (h : Builtin.Int.intBits c ≤ k) : Builtin.Int.intBits (g3 a b c : Nat) ≤ k := PySem.intBits_le_of_natAbs (by have := g3_le (a := a) (b := b) hc; omega) h
theorem fit_eq {a b c : Int} (hc : 0 < c) (hb : Builtin.Int.intBits c ≤ 9000) : d_fit [.dat (.int a), .dat (.int b), .dat (.int c)] = some (.inr (false, lowD a b c), [.no, .no, .no]) := by
  have g0 : ((g3 a b c : Nat) : Int) ≠ 0 := by have := g3_pos (a := a) (b := b) hc; omega
  have e1 : ∀ x : Int, divOk x (g3 a b c : Nat) = true := fun x => divOk_of g0 (g3_bits hc hb)
  unfold d_fit
  refine mkFn_ret (fs := [.dat (.int a), .dat (.int b), .dat (.int c), .dat (.int (g3 a b c : Nat)), .dat (.int 0)]) rfl ?_
  rw [sCons_nx (fs1 := [.dat (.int a), .dat (.int b), .dat (.int c), .dat (.int (a.natAbs : Nat)), .dat (.int (b.natAbs : Nat))]) (by simp only [mkFn, sCons, sSet, sPar, sUnp, sIf, sRet, sRetN, sDrop, sNil, sBrk, sCnt, bndS, bnd, rt, opt, fVar, fVal, fBin, fUn, rd1, rd2, Rv.rd, Sl.rd, fD, fzM, Rv.fz, fCons, fNil, dCons, dNil, aCons, aNil, aBoxN, aBox, fCall, resolve, boxes, bxpos, wb, fNm, rdAll, fTup, fLst, hAdd, hSub, hInt2, hMulL, hLt, hLe, hGt, hGe, hNeg, hAbs, hLen, hInt1, hMax2, hMin2, hIx, fSl, oNone, oSome, hSl, fB, toB, fAnd, fOr, fNot, fAndV, fOrV, fNotV, fChain, kName, kTup, kCons, kNil, slOk, sStore, fMt, mtGo, hApp, hFdiv, hMod, hDivmod, outs, List.length_cons, List.length_nil, List.getElem?_cons_zero, List.getElem?_cons_succ, List.getElem?_nil, List.set_cons_zero, List.set_cons_succ, List.replicate_succ, List.replicate_zero, List.cons_append, List.nil_append, Option.bind_some, Option.map_some, cond_true, cond_false, ite_true, ite_false, Nat.reduceAdd, Nat.reduceSub, Nat.reduceEqDiff, Nat.reduceLeDiff, if_true, if_false, reduceIte, atI_n0, atI_n1, atI_n2, atI_n3, ixN_10, ixN_20, ixN_21, hEq_int, hNe_int, Bool.not_true, decide_true, decide_false, hTuple, sTryK, sRaise, Bool.false_eq_true, Bool.not_false, sz0, sz1, sz2, sz3, sz4, sz5, sz6, sz7, sz8, abs_nat])]
  rw [sCons_nx (fs1 := [.dat (.int a), .dat (.int b), .dat (.int c), .dat (.int (Nat.gcd a.natAbs b.natAbs : Nat)), .dat (.int 0)]) (gcd_loop _ _ _ _ _)]
  rw [sCons_nx (fs1 := [.dat (.int a), .dat (.int b), .dat (.int c), .dat (.int (Nat.gcd a.natAbs b.natAbs : Nat)), .dat (.int (c.natAbs : Nat))]) (by
    have : ((c.natAbs : Nat) : Int) = c := by omega
    rw [this]; simp only [mkFn, sCons, sSet, sPar, sUnp, sIf, sRet, sRetN, sDrop, sNil, sBrk, sCnt, bndS, bnd, rt, opt, fVar, fVal, fBin, fUn, rd1, rd2, Rv.rd, Sl.rd, fD, fzM, Rv.fz, fCons, fNil, dCons, dNil, aCons, aNil, aBoxN, aBox, fCall, resolve, boxes, bxpos, wb, fNm, rdAll, fTup, fLst, hAdd, hSub, hInt2, hMulL, hLt, hLe, hGt, hGe, hNeg, hAbs, hLen, hInt1, hMax2, hMin2, hIx, fSl, oNone, oSome, hSl, fB, toB, fAnd, fOr, fNot, fAndV, fOrV, fNotV, fChain, kName, kTup, kCons, kNil, slOk, sStore, fMt, mtGo, hApp, hFdiv, hMod, hDivmod, outs, List.length_cons, List.length_nil, List.getElem?_cons_zero, List.getElem?_cons_succ, List.getElem?_nil, List.set_cons_zero, List.set_cons_succ, List.replicate_succ, List.replicate_zero, List.cons_append, List.nil_append, Option.bind_some, Option.map_some, cond_true, cond_false, ite_true, ite_false, Nat.reduceAdd, Nat.reduceSub, Nat.reduceEqDiff, Nat.reduceLeDiff, if_true, if_false, reduceIte, atI_n0, atI_n1, atI_n2, atI_n3, ixN_10, ixN_20, ixN_21, hEq_int, hNe_int, Bool.not_true, decide_true, decide_false, hTuple, sTryK, sRaise, Bool.false_eq_true, Bool.not_false, sz0, sz1, sz2, sz3, sz4, sz5, sz6, sz7, sz8])]
  rw [sCons_nx (fs1 := [.dat (.int a), .dat (.int b), .dat (.int c), .dat (.int (g3 a b c : Nat)), .dat (.int 0)]) (gcd_loop _ _ _ _ _)]
  simp only [mkFn, sCons, sSet, sPar, sUnp, sIf, sRet, sRetN, sDrop, sNil, sBrk, sCnt, bndS, bnd, rt, opt, fVar, fVal, fBin, fUn, rd1, rd2, Rv.rd, Sl.rd, fD, fzM, Rv.fz, fCons, fNil, dCons, dNil, aCons, aNil, aBoxN, aBox, fCall, resolve, boxes, bxpos, wb, fNm, rdAll, fTup, fLst, hAdd, hSub, hInt2, hMulL, hLt, hLe, hGt, hGe, hNeg, hAbs, hLen, hInt1, hMax2, hMin2, hIx, fSl, oNone, oSome, hSl, fB, toB, fAnd, fOr, fNot, fAndV, fOrV, fNotV, fChain, kName, kTup, kCons, kNil, slOk, sStore, fMt, mtGo, hApp, hFdiv, hMod, hDivmod, outs, List.length_cons, List.length_nil, List.getElem?_cons_zero, List.getElem?_cons_succ, List.getElem?_nil, List.set_cons_zero, List.set_cons_succ, List.replicate_succ, List.replicate_zero, List.cons_append, List.nil_append, Option.bind_some, Option.map_some, cond_true, cond_false, ite_true, ite_false, Nat.reduceAdd, Nat.reduceSub, Nat.reduceEqDiff, Nat.reduceLeDiff, if_true, if_false, reduceIte, atI_n0, atI_n1, atI_n2, atI_n3, ixN_10, ixN_20, ixN_21, hEq_int, hNe_int, Bool.not_true, decide_true, decide_false, hTuple, sTryK, sRaise, Bool.false_eq_true, Bool.not_false, sz0, sz1, sz2, sz3, sz4, sz5, sz6, sz7, sz8, e1, lowD]
abbrev Bt (k : Nat) (x : Int) : Prop := Builtin.Int.intBits x ≤ k
theorem Bt.mul {x y : Int} {m n : Nat} (h : Bt m x) (h2 : Bt n y) : Bt (m + n) (x * y) := PySem.intBits_mul_le h h2
theorem Bt.add {x y : Int} {m n : Nat} (h : Bt m x) (h2 : Bt n y) : Bt (max m n + 1) (x + y) := PySem.intBits_add_le h h2
theorem Bt.sub {x y : Int} {m n : Nat} (h : Bt m x) (h2 : Bt n y) : Bt (max m n + 1) (x - y) := PySem.intBits_sub_le h h2
theorem Bt.mono {x : Int} {m n : Nat} (h : Bt m x) (h2 : m ≤ n) : Bt n x := Nat.le_trans h h2
theorem Bt.ok {x y : Int} {m n : Nat} (h : Bt m x) (h2 : Bt n y) (hk : m + n ≤ 2 ^ 26) : mulOk x y = true := mulOk_b (Nat.le_trans (Nat.add_le_add h h2) hk)
theorem plus_eq {a b c d e f : Int} (hc : 0 < c) (hf : 0 < f) (ba : Bt 4000 a) (bb : Bt 4000 b) (bc : Bt 4000 c) (bd : Bt 4000 d) (be : Bt 4000 e) (bf : Bt 4000 f) :
    d_plus [.dat (tup3 a b c), .dat (tup3 d e f)] = some (.inr (false, lowD (a * f + d * c) (b * f + e * c) (c * f)), [.no, .no]) := by
  have e0 := fit_eq (a := a * f + d * c) (b := b * f + e * c) (c := c * f) (Int.mul_pos hc hf) ((bc.mul bf).mono (by decide))
  simp only [d_plus, mkFn, sCons, sSet, sPar, sUnp, sIf, sRet, sRetN, sDrop, sNil, sBrk, sCnt, bndS, bnd, rt, opt, fVar, fVal, fBin, fUn, rd1, rd2, Rv.rd, Sl.rd, fD, fzM, Rv.fz, fCons, fNil, dCons, dNil, aCons, aNil, aBoxN, aBox, fCall, resolve, boxes, bxpos, wb, fNm, rdAll, fTup, fLst, hAdd, hSub, hInt2, hMulL, hLt, hLe, hGt, hGe, hNeg, hAbs, hLen, hInt1, hMax2, hMin2, hIx, fSl, oNone, oSome, hSl, fB, toB, fAnd, fOr, fNot, fAndV, fOrV, fNotV, fChain, kName, kTup, kCons, kNil, slOk, sStore, fMt, mtGo, hApp, hFdiv, hMod, hDivmod, outs, List.length_cons, List.length_nil, List.getElem?_cons_zero, List.getElem?_cons_succ, List.getElem?_nil, List.set_cons_zero, List.set_cons_succ, List.replicate_succ, List.replicate_zero, List.cons_append, List.nil_append, Option.bind_some, Option.map_some, cond_true, cond_false, ite_true, ite_false, Nat.reduceAdd, Nat.reduceSub, Nat.reduceEqDiff, Nat.reduceLeDiff, if_true, if_false, reduceIte, atI_n0, atI_n1, atI_n2, atI_n3, ixN_10, ixN_20, ixN_21, hEq_int, hNe_int, Bool.not_true, decide_true, decide_false, hTuple, sTryK, sRaise, Bool.false_eq_true, Bool.not_false, sz0, sz1, sz2, sz3, sz4, sz5, sz6, sz7, sz8, ba.ok bf (by decide), bd.ok bc (by decide), bb.ok bf (by decide), be.ok bc (by decide), bc.ok bf (by decide), e0]
theorem minus_eq {a b c d e f : Int} (hc : 0 < c) (hf : 0 < f) (ba : Bt 4000 a) (bb : Bt 4000 b) (bc : Bt 4000 c) (bd : Bt 3998 d) (be : Bt 3998 e) (bf : Bt 4000 f) :
    d_minus [.dat (tup3 a b c), .dat (tup3 d e f)] = some (.inr (false, lowD (a * f + (0 - d) * c) (b * f + (0 - e) * c) (c * f)), [.no, .no]) := by
  have z : Bt 0 0 := by decide
  have e0 := plus_eq (a := a) (b := b) (c := c) (d := 0 - d) (e := 0 - e) (f := f) hc hf ba bb bc ((z.sub bd).mono (by decide)) ((z.sub be).mono (by decide)) bf
  simp only [d_minus, mkFn, sCons, sSet, sPar, sUnp, sIf, sRet, sRetN, sDrop, sNil, sBrk, sCnt, bndS, bnd, rt, opt, fVar, fVal, fBin, fUn, rd1, rd2, Rv.rd, Sl.rd, fD, fzM, Rv.fz, fCons, fNil, dCons, dNil, aCons, aNil, aBoxN, aBox, fCall, resolve, boxes, bxpos, wb, fNm, rdAll, fTup, fLst, hAdd, hSub, hInt2, hMulL, hLt, hLe, hGt, hGe, hNeg, hAbs, hLen, hInt1, hMax2, hMin2, hIx, fSl, oNone, oSome, hSl, fB, toB, fAnd, fOr, fNot, fAndV, fOrV, fNotV, fChain, kName, kTup, kCons, kNil, slOk, sStore, fMt, mtGo, hApp, hFdiv, hMod, hDivmod, outs, List.length_cons, List.length_nil, List.getElem?_cons_zero, List.getElem?_cons_succ, List.getElem?_nil, List.set_cons_zero, List.set_cons_succ, List.replicate_succ, List.replicate_zero, List.cons_append, List.nil_append, Option.bind_some, Option.map_some, cond_true, cond_false, ite_true, ite_false, Nat.reduceAdd, Nat.reduceSub, Nat.reduceEqDiff, Nat.reduceLeDiff, if_true, if_false, reduceIte, atI_n0, atI_n1, atI_n2, atI_n3, ixN_10, ixN_20, ixN_21, hEq_int, hNe_int, Bool.not_true, decide_true, decide_false, hTuple, sTryK, sRaise, Bool.false_eq_true, Bool.not_false, sz0, sz1, sz2, sz3, sz4, sz5, sz6, sz7, sz8, e0]
/-- below nought: a + b * the root of r -/
def negV (r a b : Int) : Bool := if 0 ≤ a ∧ 0 ≤ b then false else if a ≤ 0 ∧ b ≤ 0 then true else if a < 0 then decide (b * b * r < a * a) else decide (a * a < b * b * r)
theorem less_eq {r a b c d e f : Int} (hc : 0 < c) (hf : 0 < f) (ba : Bt 900 a) (bb : Bt 900 b) (bc : Bt 900 c) (bd : Bt 900 d) (be : Bt 900 e) (bf : Bt 900 f) (br : Bt 60 r) :
    d_less [.dat (.int r), .dat (tup3 a b c), .dat (tup3 d e f)] = some (.inr (false, .bool (negV r ((a * f + (0 - d) * c).fdiv (g3 (a * f + (0 - d) * c) (b * f + (0 - e) * c) (c * f))) ((b * f + (0 - e) * c).fdiv (g3 (a * f + (0 - d) * c) (b * f + (0 - e) * c) (c * f))))), [.no, .no, .no]) := by
  have z : Bt 0 0 := by decide
  have e0 := minus_eq (a := a) (b := b) (c := c) (d := d) (e := e) (f := f) hc hf (ba.mono (by decide)) (bb.mono (by decide)) (bc.mono (by decide)) (bd.mono (by decide)) (be.mono (by decide)) (bf.mono (by decide))
  have b1 : Bt 1900 ((a * f + (0 - d) * c).fdiv (g3 (a * f + (0 - d) * c) (b * f + (0 - e) * c) (c * f))) := PySem.intBits_fdiv_le (((ba.mul bf).add ((z.sub bd).mul bc)).mono (by decide))
  have b2 : Bt 1900 ((b * f + (0 - e) * c).fdiv (g3 (a * f + (0 - d) * c) (b * f + (0 - e) * c) (c * f))) := PySem.intBits_fdiv_le (((bb.mul bf).add ((z.sub be).mul bc)).mono (by decide))
  unfold d_less
  unfold lowD at e0
  generalize (a * f + (0 - d) * c).fdiv (g3 (a * f + (0 - d) * c) (b * f + (0 - e) * c) (c * f)) = x at e0 b1 ⊢
  generalize (b * f + (0 - e) * c).fdiv (g3 (a * f + (0 - d) * c) (b * f + (0 - e) * c) (c * f)) = y at e0 b2 ⊢
  generalize (c * f).fdiv (g3 (a * f + (0 - d) * c) (b * f + (0 - e) * c) (c * f)) = w at e0 ⊢
  have o1 := b1.ok b1 (by decide)
  have o2 := b2.ok b2 (by decide)
  have o3 := (b2.mul b2).ok br (by decide)
  unfold negV
  by_cases h1 : 0 ≤ x
  · have d1 := decide_eq_true h1
    by_cases h2 : 0 ≤ y
    · have d2 := decide_eq_true h2
      rw [if_pos ⟨h1, h2⟩]
      simp only [mkFn, sCons, sSet, sPar, sUnp, sIf, sRet, sRetN, sDrop, sNil, sBrk, sCnt, bndS, bnd, rt, opt, fVar, fVal, fBin, fUn, rd1, rd2, Rv.rd, Sl.rd, fD, fzM, Rv.fz, fCons, fNil, dCons, dNil, aCons, aNil, aBoxN, aBox, fCall, resolve, boxes, bxpos, wb, fNm, rdAll, fTup, fLst, hAdd, hSub, hInt2, hMulL, hLt, hLe, hGt, hGe, hNeg, hAbs, hLen, hInt1, hMax2, hMin2, hIx, fSl, oNone, oSome, hSl, fB, toB, fAnd, fOr, fNot, fAndV, fOrV, fNotV, fChain, kName, kTup, kCons, kNil, slOk, sStore, fMt, mtGo, hApp, hFdiv, hMod, hDivmod, outs, List.length_cons, List.length_nil, List.getElem?_cons_zero, List.getElem?_cons_succ, List.getElem?_nil, List.set_cons_zero, List.set_cons_succ, List.replicate_succ, List.replicate_zero, List.cons_append, List.nil_append, Option.bind_some, Option.map_some, cond_true, cond_false, ite_true, ite_false, Nat.reduceAdd, Nat.reduceSub, Nat.reduceEqDiff, Nat.reduceLeDiff, if_true, if_false, reduceIte, atI_n0, atI_n1, atI_n2, atI_n3, ixN_10, ixN_20, ixN_21, hEq_int, hNe_int, Bool.not_true, decide_true, decide_false, hTuple, sTryK, sRaise, Bool.false_eq_true, Bool.not_false, sz0, sz1, sz2, sz3, sz4, sz5, sz6, sz7, sz8, e0, d1, d2]
    · have d2 := decide_eq_false h2
      rw [if_neg fun q => h2 q.2]
      by_cases h3 : x ≤ 0
      · have d3 := decide_eq_true h3
        have d4 : decide (y ≤ 0) = true := decide_eq_true (by omega)
        rw [if_pos ⟨h3, by omega⟩]
        simp only [mkFn, sCons, sSet, sPar, sUnp, sIf, sRet, sRetN, sDrop, sNil, sBrk, sCnt, bndS, bnd, rt, opt, fVar, fVal, fBin, fUn, rd1, rd2, Rv.rd, Sl.rd, fD, fzM, Rv.fz, fCons, fNil, dCons, dNil, aCons, aNil, aBoxN, aBox, fCall, resolve, boxes, bxpos, wb, fNm, rdAll, fTup, fLst, hAdd, hSub, hInt2, hMulL, hLt, hLe, hGt, hGe, hNeg, hAbs, hLen, hInt1, hMax2, hMin2, hIx, fSl, oNone, oSome, hSl, fB, toB, fAnd, fOr, fNot, fAndV, fOrV, fNotV, fChain, kName, kTup, kCons, kNil, slOk, sStore, fMt, mtGo, hApp, hFdiv, hMod, hDivmod, outs, List.length_cons, List.length_nil, List.getElem?_cons_zero, List.getElem?_cons_succ, List.getElem?_nil, List.set_cons_zero, List.set_cons_succ, List.replicate_succ, List.replicate_zero, List.cons_append, List.nil_append, Option.bind_some, Option.map_some, cond_true, cond_false, ite_true, ite_false, Nat.reduceAdd, Nat.reduceSub, Nat.reduceEqDiff, Nat.reduceLeDiff, if_true, if_false, reduceIte, atI_n0, atI_n1, atI_n2, atI_n3, ixN_10, ixN_20, ixN_21, hEq_int, hNe_int, Bool.not_true, decide_true, decide_false, hTuple, sTryK, sRaise, Bool.false_eq_true, Bool.not_false, sz0, sz1, sz2, sz3, sz4, sz5, sz6, sz7, sz8, e0, d1, d2, d3, d4]
      · have d3 := decide_eq_false h3
        have d4 : decide (x < 0) = false := decide_eq_false (by omega)
        rw [if_neg fun q => h3 q.1, if_neg (by omega)]
        simp only [mkFn, sCons, sSet, sPar, sUnp, sIf, sRet, sRetN, sDrop, sNil, sBrk, sCnt, bndS, bnd, rt, opt, fVar, fVal, fBin, fUn, rd1, rd2, Rv.rd, Sl.rd, fD, fzM, Rv.fz, fCons, fNil, dCons, dNil, aCons, aNil, aBoxN, aBox, fCall, resolve, boxes, bxpos, wb, fNm, rdAll, fTup, fLst, hAdd, hSub, hInt2, hMulL, hLt, hLe, hGt, hGe, hNeg, hAbs, hLen, hInt1, hMax2, hMin2, hIx, fSl, oNone, oSome, hSl, fB, toB, fAnd, fOr, fNot, fAndV, fOrV, fNotV, fChain, kName, kTup, kCons, kNil, slOk, sStore, fMt, mtGo, hApp, hFdiv, hMod, hDivmod, outs, List.length_cons, List.length_nil, List.getElem?_cons_zero, List.getElem?_cons_succ, List.getElem?_nil, List.set_cons_zero, List.set_cons_succ, List.replicate_succ, List.replicate_zero, List.cons_append, List.nil_append, Option.bind_some, Option.map_some, cond_true, cond_false, ite_true, ite_false, Nat.reduceAdd, Nat.reduceSub, Nat.reduceEqDiff, Nat.reduceLeDiff, if_true, if_false, reduceIte, atI_n0, atI_n1, atI_n2, atI_n3, ixN_10, ixN_20, ixN_21, hEq_int, hNe_int, Bool.not_true, decide_true, decide_false, hTuple, sTryK, sRaise, Bool.false_eq_true, Bool.not_false, sz0, sz1, sz2, sz3, sz4, sz5, sz6, sz7, sz8, e0, d1, d2, d3, d4, o1, o2, o3]
  · have d1 := decide_eq_false h1
    rw [if_neg fun q => h1 q.1]
    have d3 : decide (x ≤ 0) = true := decide_eq_true (by omega)
    by_cases h3 : y ≤ 0
    · have d4 := decide_eq_true h3
      rw [if_pos ⟨by omega, h3⟩]
      simp only [mkFn, sCons, sSet, sPar, sUnp, sIf, sRet, sRetN, sDrop, sNil, sBrk, sCnt, bndS, bnd, rt, opt, fVar, fVal, fBin, fUn, rd1, rd2, Rv.rd, Sl.rd, fD, fzM, Rv.fz, fCons, fNil, dCons, dNil, aCons, aNil, aBoxN, aBox, fCall, resolve, boxes, bxpos, wb, fNm, rdAll, fTup, fLst, hAdd, hSub, hInt2, hMulL, hLt, hLe, hGt, hGe, hNeg, hAbs, hLen, hInt1, hMax2, hMin2, hIx, fSl, oNone, oSome, hSl, fB, toB, fAnd, fOr, fNot, fAndV, fOrV, fNotV, fChain, kName, kTup, kCons, kNil, slOk, sStore, fMt, mtGo, hApp, hFdiv, hMod, hDivmod, outs, List.length_cons, List.length_nil, List.getElem?_cons_zero, List.getElem?_cons_succ, List.getElem?_nil, List.set_cons_zero, List.set_cons_succ, List.replicate_succ, List.replicate_zero, List.cons_append, List.nil_append, Option.bind_some, Option.map_some, cond_true, cond_false, ite_true, ite_false, Nat.reduceAdd, Nat.reduceSub, Nat.reduceEqDiff, Nat.reduceLeDiff, if_true, if_false, reduceIte, atI_n0, atI_n1, atI_n2, atI_n3, ixN_10, ixN_20, ixN_21, hEq_int, hNe_int, Bool.not_true, decide_true, decide_false, hTuple, sTryK, sRaise, Bool.false_eq_true, Bool.not_false, sz0, sz1, sz2, sz3, sz4, sz5, sz6, sz7, sz8, e0, d1, d3, d4]
    · have d4 := decide_eq_false h3
      have d5 : decide (x < 0) = true := decide_eq_true (by omega)
      rw [if_neg fun q => h3 q.2, if_pos (by omega)]
      simp only [mkFn, sCons, sSet, sPar, sUnp, sIf, sRet, sRetN, sDrop, sNil, sBrk, sCnt, bndS, bnd, rt, opt, fVar, fVal, fBin, fUn, rd1, rd2, Rv.rd, Sl.rd, fD, fzM, Rv.fz, fCons, fNil, dCons, dNil, aCons, aNil, aBoxN, aBox, fCall, resolve, boxes, bxpos, wb, fNm, rdAll, fTup, fLst, hAdd, hSub, hInt2, hMulL, hLt, hLe, hGt, hGe, hNeg, hAbs, hLen, hInt1, hMax2, hMin2, hIx, fSl, oNone, oSome, hSl, fB, toB, fAnd, fOr, fNot, fAndV, fOrV, fNotV, fChain, kName, kTup, kCons, kNil, slOk, sStore, fMt, mtGo, hApp, hFdiv, hMod, hDivmod, outs, List.length_cons, List.length_nil, List.getElem?_cons_zero, List.getElem?_cons_succ, List.getElem?_nil, List.set_cons_zero, List.set_cons_succ, List.replicate_succ, List.replicate_zero, List.cons_append, List.nil_append, Option.bind_some, Option.map_some, cond_true, cond_false, ite_true, ite_false, Nat.reduceAdd, Nat.reduceSub, Nat.reduceEqDiff, Nat.reduceLeDiff, if_true, if_false, reduceIte, atI_n0, atI_n1, atI_n2, atI_n3, ixN_10, ixN_20, ixN_21, hEq_int, hNe_int, Bool.not_true, decide_true, decide_false, hTuple, sTryK, sRaise, Bool.false_eq_true, Bool.not_false, sz0, sz1, sz2, sz3, sz4, sz5, sz6, sz7, sz8, e0, d1, d3, d4, d5, o1, o2, o3]
/-! ### longs -/
/-- a long of root r: above nought, in lowest terms, small -/
def GoodL (r : Int) (x : D) : Prop := ∃ a b c : Int, x = tup3 a b c ∧ 0 < c ∧ c ≤ 3 ∧ -9 ≤ a ∧ a ≤ 9 ∧ -9 ≤ b ∧ b ≤ 9 ∧ negV r a b = false ∧ (a ≠ 0 ∨ b ≠ 0) ∧ (r = 0 → b = 0) ∧ g3 a b c = 1
theorem fdiv_exact {a : Int} {g : Nat} (h : (g : Int) ∣ a) : a.fdiv g * g = a := by
  rw [Int.fdiv_eq_ediv_of_nonneg _ (Int.natCast_nonneg g)]
  exact Int.ediv_mul_cancel h
theorem g3_dvd (a b c : Int) : ((g3 a b c : Nat) : Int) ∣ a ∧ ((g3 a b c : Nat) : Int) ∣ b ∧ ((g3 a b c : Nat) : Int) ∣ c := by
  have h1 : g3 a b c ∣ Nat.gcd a.natAbs b.natAbs := Nat.gcd_dvd_left _ _
  exact ⟨Int.ofNat_dvd_left.mpr (Nat.dvd_trans h1 (Nat.gcd_dvd_left _ _)), Int.ofNat_dvd_left.mpr (Nat.dvd_trans h1 (Nat.gcd_dvd_right _ _)), Int.ofNat_dvd_left.mpr (Nat.gcd_dvd_right _ _)⟩
/-- what is in lowest terms -/
theorem g3_low {a b c : Int} (hc : 0 < c) : g3 (a.fdiv (g3 a b c)) (b.fdiv (g3 a b c)) (c.fdiv (g3 a b c)) = 1 := by
  obtain ⟨h1, h2, h3⟩ := g3_dvd a b c
  have e1 := fdiv_exact h1
  have e2 := fdiv_exact h2
  have e3 := fdiv_exact h3
  have hp := g3_pos (a := a) (b := b) hc
  generalize hg : g3 a b c = g at *
  generalize a.fdiv g = x at *
  generalize b.fdiv g = y at *
  generalize c.fdiv g = z at *
  have : g3 (x * g) (y * g) (z * g) = g3 x y z * g := by
    unfold g3
    rw [Int.natAbs_mul, Int.natAbs_mul, Int.natAbs_mul, Int.natAbs_natCast, Nat.gcd_mul_right, Nat.gcd_mul_right]
  rw [e1, e2, e3, hg] at this
  have h4 : 1 * g = g3 x y z * g := by rw [Nat.one_mul]; exact this
  exact (Nat.eq_of_mul_eq_mul_right hp h4).symm
theorem low_pos {a b c : Int} (hc : 0 < c) : 0 < c.fdiv (g3 a b c) := by
  have e3 := fdiv_exact (g3_dvd a b c).2.2
  have hp := g3_pos (a := a) (b := b) hc
  generalize c.fdiv (g3 a b c) = z at *
  rcases Int.lt_or_le 0 z with h | h
  · exact h
  · exfalso
    have : z * (g3 a b c : Nat) ≤ 0 := Int.mul_nonpos_of_nonpos_of_nonneg h (Int.natCast_nonneg _)
    omega
theorem abs_low (a : Int) (g : Nat) : (a.fdiv g).natAbs ≤ a.natAbs := PySem.natAbs_fdiv_le a g
theorem g3_zero {c : Int} : g3 0 0 c = c.natAbs := by unfold g3; simp
theorem g3_neg (a b c : Int) : g3 (-a) (-b) c = g3 a b c := by unfold g3; rw [Int.natAbs_neg, Int.natAbs_neg]
theorem negV_neg {r a b : Int} (h : negV r a b = true) : negV r (-a) (-b) = false ∧ (a ≠ 0 ∨ b ≠ 0) := by
  unfold negV at h ⊢
  by_cases h1 : 0 ≤ a ∧ 0 ≤ b
  · rw [if_pos h1] at h; cases h
  · rw [if_neg h1] at h
    refine ⟨?_, by omega⟩
    by_cases h2 : a ≤ 0 ∧ b ≤ 0
    · rw [if_pos (by omega)]
    · rw [if_neg h2] at h
      rw [if_neg (by omega), if_neg (by omega)]
      have s1 : -a * -a = a * a := Int.neg_mul_neg a a
      have s2 : -b * -b = b * b := Int.neg_mul_neg b b
      rw [s1, s2]
      by_cases h3 : a < 0
      · rw [if_pos h3] at h
        rw [if_neg (by omega)]
        have := of_decide_eq_true h
        exact decide_eq_false (by omega)
      · rw [if_neg h3] at h
        rw [if_pos (by omega)]
        have := of_decide_eq_true h
        exact decide_eq_false (by omega)
theorem smallB {x : Int} (h : x.natAbs < 2 ^ 60) : Bt 60 x := bits_le h
theorem less0_eq {r a b c : Int} (hc : 0 < c) (h1 : g3 a b c = 1) (ba : Bt 900 a) (bb : Bt 900 b) (bc : Bt 900 c) (br : Bt 60 r) : d_less [.dat (.int r), .dat (tup3 a b c), .dat (tup3 0 0 1)] = some (.inr (false, .bool (negV r a b)), [.no, .no, .no]) := by
  rw [less_eq (d := 0) (e := 0) (f := 1) hc (by decide) ba bb bc (by decide) (by decide) (by decide) br]
  have e1 : a * 1 + (0 - 0) * c = a := by rw [Int.sub_zero, Int.zero_mul, Int.mul_one, Int.add_zero]
  have e2 : b * 1 + (0 - 0) * c = b := by rw [Int.sub_zero, Int.zero_mul, Int.mul_one, Int.add_zero]
  rw [e1, e2, Int.mul_one, h1]
  have e3 : ∀ x : Int, x.fdiv ((1 : Nat) : Int) = x := fun x => by rw [Int.natCast_one]; exact Int.fdiv_one x
  rw [e3, e3]
theorem noB_tup3 (a b c : Int) : noB (tup3 a b c) = true := by simp [noB, noBs]
theorem sh_tup3 (a b c : Int) : SeqAt.shaped (tup3 a b c) = true := shaped_by 1 (noB_tup3 a b c) (by simp [dpth, dpths]) (by decide)
theorem hEq_tup3 (a b c d e f : Int) : hEq (tup3 a b c) (tup3 d e f) = some (.val (.bool (decide (a = d ∧ b = e ∧ c = f)))) := by
  by_cases h : a = d ∧ b = e ∧ c = f
  · obtain ⟨rfl, rfl, rfl⟩ := h
    rw [hEq_t (sh_tup3 _ _ _) (sh_tup3 _ _ _) (eqv_same (noB_tup3 _ _ _)), decide_eq_true ⟨rfl, rfl, rfl⟩]
  · rw [hEq_f (sh_tup3 _ _ _) (sh_tup3 _ _ _) (eqv_ne (noB_tup3 _ _ _) (noB_tup3 _ _ _) fun q => h (by simpa using q)), decide_eq_false h]
theorem long_ex (n r : Int) (br : Bt 60 r) : ∃ n' x, GoodL r x ∧ d_long [.own 1 (.list [.int n]), .dat (.int r)] = some (.inr (false, x), [.own 1 (.list [.int n']), .no]) := by
  by_cases hr : r = 0
  · subst hr
    obtain ⟨n1, d1, h1, h2, e1⟩ := take_ex n (m := 9) (by decide) (by decide)
    obtain ⟨n2, d2, h3, h4, e2⟩ := take_ex n1 (m := 3) (by decide) (by decide)
    have ef := fit_eq (a := 1 + d1) (b := 0) (c := 1 + d2) (by omega) ((smallB (by omega)).mono (by decide))
    have p1 := abs_low (1 + d1) (g3 (1 + d1) 0 (1 + d2))
    have p3 := abs_low (1 + d2) (g3 (1 + d1) 0 (1 + d2))
    have p4 := low_pos (a := 1 + d1) (b := 0) (c := 1 + d2) (by omega)
    have p5 := g3_low (a := 1 + d1) (b := 0) (c := 1 + d2) (by omega)
    have x1 := fdiv_exact (g3_dvd (1 + d1) 0 (1 + d2)).1
    have z : (0 : Int).fdiv (g3 (1 + d1) 0 (1 + d2) : Nat) = 0 := Int.zero_fdiv _
    have hp := g3_pos (a := 1 + d1) (b := 0) (c := 1 + d2) (by omega)
    refine ⟨n2, _, ⟨_, _, _, rfl, p4, by omega, by omega, by omega, by rw [z]; decide, by rw [z]; decide, ?_, .inl ?_, fun _ => z, p5⟩, by simp only [d_long, mkFn, sCons, sSet, sPar, sUnp, sIf, sRet, sRetN, sDrop, sNil, sBrk, sCnt, bndS, bnd, rt, opt, fVar, fVal, fBin, fUn, rd1, rd2, Rv.rd, Sl.rd, fD, fzM, Rv.fz, fCons, fNil, dCons, dNil, aCons, aNil, aBoxN, aBox, fCall, resolve, boxes, bxpos, wb, fNm, rdAll, fTup, fLst, hAdd, hSub, hInt2, hMulL, hLt, hLe, hGt, hGe, hNeg, hAbs, hLen, hInt1, hMax2, hMin2, hIx, fSl, oNone, oSome, hSl, fB, toB, fAnd, fOr, fNot, fAndV, fOrV, fNotV, fChain, kName, kTup, kCons, kNil, slOk, sStore, fMt, mtGo, hApp, hFdiv, hMod, hDivmod, outs, List.length_cons, List.length_nil, List.getElem?_cons_zero, List.getElem?_cons_succ, List.getElem?_nil, List.set_cons_zero, List.set_cons_succ, List.replicate_succ, List.replicate_zero, List.cons_append, List.nil_append, Option.bind_some, Option.map_some, cond_true, cond_false, ite_true, ite_false, Nat.reduceAdd, Nat.reduceSub, Nat.reduceEqDiff, Nat.reduceLeDiff, if_true, if_false, reduceIte, atI_n0, atI_n1, atI_n2, atI_n3, ixN_10, ixN_20, ixN_21, hEq_int, hNe_int, Bool.not_true, decide_true, decide_false, hTuple, sTryK, sRaise, Bool.false_eq_true, Bool.not_false, sz0, sz1, sz2, sz3, sz4, sz5, sz6, sz7, sz8, decide_true, e1, e2, ef]; rfl⟩
    · have : 0 ≤ (1 + d1).fdiv (g3 (1 + d1) 0 (1 + d2) : Nat) := Int.fdiv_nonneg (by omega) (Int.natCast_nonneg _)
      unfold negV
      rw [if_pos ⟨this, by rw [z]; decide⟩]
    · intro q
      rw [q, Int.zero_mul] at x1
      omega
  · obtain ⟨n1, d1, h1, h2, e1⟩ := take_ex n (m := 12) (by decide) (by decide)
    obtain ⟨n2, d2, h3, h4, e2⟩ := take_ex n1 (m := 7) (by decide) (by decide)
    obtain ⟨n3, d3, h5, h6, e3⟩ := take_ex n2 (m := 2) (by decide) (by decide)
    have ef := fit_eq (a := d1 - 3) (b := d2 - 2) (c := 1 + d3) (by omega) ((smallB (by omega)).mono (by decide))
    have p1 := abs_low (d1 - 3) (g3 (d1 - 3) (d2 - 2) (1 + d3))
    have p2 := abs_low (d2 - 2) (g3 (d1 - 3) (d2 - 2) (1 + d3))
    have p3 := abs_low (1 + d3) (g3 (d1 - 3) (d2 - 2) (1 + d3))
    have p4 := low_pos (a := d1 - 3) (b := d2 - 2) (c := 1 + d3) (by omega)
    have p5 := g3_low (a := d1 - 3) (b := d2 - 2) (c := 1 + d3) (by omega)
    unfold lowD at ef
    generalize (d1 - 3).fdiv (g3 (d1 - 3) (d2 - 2) (1 + d3) : Nat) = a at ef p1 p5
    generalize (d2 - 2).fdiv (g3 (d1 - 3) (d2 - 2) (1 + d3) : Nat) = b at ef p2 p5
    generalize (1 + d3).fdiv (g3 (d1 - 3) (d2 - 2) (1 + d3) : Nat) = c at ef p3 p4 p5
    have el := less0_eq (r := r) p4 p5 ((smallB (by omega)).mono (by decide)) ((smallB (by omega)).mono (by decide)) ((smallB (by omega)).mono (by decide)) br
    have er := decide_eq_false hr
    cases q : negV r a b with
    | true =>
      rw [q] at el
      obtain ⟨q1, q2⟩ := negV_neg q
      refine ⟨n3, tup3 (0 - a) (0 - b) c, ⟨0 - a, 0 - b, c, rfl, p4, by omega, by omega, by omega, by omega, by omega, ?_, by omega, fun z => absurd z hr, ?_⟩, by simp only [d_long, mkFn, sCons, sSet, sPar, sUnp, sIf, sRet, sRetN, sDrop, sNil, sBrk, sCnt, bndS, bnd, rt, opt, fVar, fVal, fBin, fUn, rd1, rd2, Rv.rd, Sl.rd, fD, fzM, Rv.fz, fCons, fNil, dCons, dNil, aCons, aNil, aBoxN, aBox, fCall, resolve, boxes, bxpos, wb, fNm, rdAll, fTup, fLst, hAdd, hSub, hInt2, hMulL, hLt, hLe, hGt, hGe, hNeg, hAbs, hLen, hInt1, hMax2, hMin2, hIx, fSl, oNone, oSome, hSl, fB, toB, fAnd, fOr, fNot, fAndV, fOrV, fNotV, fChain, kName, kTup, kCons, kNil, slOk, sStore, fMt, mtGo, hApp, hFdiv, hMod, hDivmod, outs, List.length_cons, List.length_nil, List.getElem?_cons_zero, List.getElem?_cons_succ, List.getElem?_nil, List.set_cons_zero, List.set_cons_succ, List.replicate_succ, List.replicate_zero, List.cons_append, List.nil_append, Option.bind_some, Option.map_some, cond_true, cond_false, ite_true, ite_false, Nat.reduceAdd, Nat.reduceSub, Nat.reduceEqDiff, Nat.reduceLeDiff, if_true, if_false, reduceIte, atI_n0, atI_n1, atI_n2, atI_n3, ixN_10, ixN_20, ixN_21, hEq_int, hNe_int, Bool.not_true, decide_true, decide_false, hTuple, sTryK, sRaise, Bool.false_eq_true, Bool.not_false, sz0, sz1, sz2, sz3, sz4, sz5, sz6, sz7, sz8, er, e1, e2, e3, ef, el]⟩
      · rw [Int.zero_sub, Int.zero_sub]; exact q1
      · rw [Int.zero_sub, Int.zero_sub, g3_neg]; exact p5
    | false =>
      rw [q] at el
      by_cases hz : a = 0 ∧ b = 0 ∧ c = 1
      · have ed := decide_eq_true hz
        refine ⟨n3, tup3 1 0 1, ⟨1, 0, 1, rfl, by decide, by decide, by decide, by decide, by decide, by decide, rfl, .inl (by decide), fun _ => rfl, by decide⟩, by simp only [d_long, mkFn, sCons, sSet, sPar, sUnp, sIf, sRet, sRetN, sDrop, sNil, sBrk, sCnt, bndS, bnd, rt, opt, fVar, fVal, fBin, fUn, rd1, rd2, Rv.rd, Sl.rd, fD, fzM, Rv.fz, fCons, fNil, dCons, dNil, aCons, aNil, aBoxN, aBox, fCall, resolve, boxes, bxpos, wb, fNm, rdAll, fTup, fLst, hAdd, hSub, hInt2, hMulL, hLt, hLe, hGt, hGe, hNeg, hAbs, hLen, hInt1, hMax2, hMin2, hIx, fSl, oNone, oSome, hSl, fB, toB, fAnd, fOr, fNot, fAndV, fOrV, fNotV, fChain, kName, kTup, kCons, kNil, slOk, sStore, fMt, mtGo, hApp, hFdiv, hMod, hDivmod, outs, List.length_cons, List.length_nil, List.getElem?_cons_zero, List.getElem?_cons_succ, List.getElem?_nil, List.set_cons_zero, List.set_cons_succ, List.replicate_succ, List.replicate_zero, List.cons_append, List.nil_append, Option.bind_some, Option.map_some, cond_true, cond_false, ite_true, ite_false, Nat.reduceAdd, Nat.reduceSub, Nat.reduceEqDiff, Nat.reduceLeDiff, if_true, if_false, reduceIte, atI_n0, atI_n1, atI_n2, atI_n3, ixN_10, ixN_20, ixN_21, hEq_int, hNe_int, Bool.not_true, decide_true, decide_false, hTuple, sTryK, sRaise, Bool.false_eq_true, Bool.not_false, sz0, sz1, sz2, sz3, sz4, sz5, sz6, sz7, sz8, er, e1, e2, e3, ef, el, hEq_tup3, ed]⟩
      · have ed := decide_eq_false hz
        refine ⟨n3, tup3 a b c, ⟨a, b, c, rfl, p4, by omega, by omega, by omega, by omega, by omega, q, ?_, fun z => absurd z hr, p5⟩, by simp only [d_long, mkFn, sCons, sSet, sPar, sUnp, sIf, sRet, sRetN, sDrop, sNil, sBrk, sCnt, bndS, bnd, rt, opt, fVar, fVal, fBin, fUn, rd1, rd2, Rv.rd, Sl.rd, fD, fzM, Rv.fz, fCons, fNil, dCons, dNil, aCons, aNil, aBoxN, aBox, fCall, resolve, boxes, bxpos, wb, fNm, rdAll, fTup, fLst, hAdd, hSub, hInt2, hMulL, hLt, hLe, hGt, hGe, hNeg, hAbs, hLen, hInt1, hMax2, hMin2, hIx, fSl, oNone, oSome, hSl, fB, toB, fAnd, fOr, fNot, fAndV, fOrV, fNotV, fChain, kName, kTup, kCons, kNil, slOk, sStore, fMt, mtGo, hApp, hFdiv, hMod, hDivmod, outs, List.length_cons, List.length_nil, List.getElem?_cons_zero, List.getElem?_cons_succ, List.getElem?_nil, List.set_cons_zero, List.set_cons_succ, List.replicate_succ, List.replicate_zero, List.cons_append, List.nil_append, Option.bind_some, Option.map_some, cond_true, cond_false, ite_true, ite_false, Nat.reduceAdd, Nat.reduceSub, Nat.reduceEqDiff, Nat.reduceLeDiff, if_true, if_false, reduceIte, atI_n0, atI_n1, atI_n2, atI_n3, ixN_10, ixN_20, ixN_21, hEq_int, hNe_int, Bool.not_true, decide_true, decide_false, hTuple, sTryK, sRaise, Bool.false_eq_true, Bool.not_false, sz0, sz1, sz2, sz3, sz4, sz5, sz6, sz7, sz8, er, e1, e2, e3, ef, el, hEq_tup3, ed]⟩
        by_cases ha : a = 0
        · by_cases hb : b = 0
          · subst ha hb
            rw [g3_zero] at p5
            omega
          · exact .inr hb
        · exact .inl ha
/-! ### changes -/
theorem map_eraseIdx {α β : Type} (f : α → β) : ∀ (l : List α) (k : Nat), (l.map f).eraseIdx k = (l.eraseIdx k).map f
  | [], _ => rfl
  | _ :: _, 0 => rfl
  | x :: l, k + 1 => by
    show f x :: (l.map f).eraseIdx k = f x :: (l.eraseIdx k).map f
    rw [map_eraseIdx f l k]
theorem erase_perm {α : Type} : ∀ (l : List α) (k : Nat) (h : k < l.length), (l[k] :: l.eraseIdx k).Perm l
  | x :: l, 0, _ => .refl _
  | x :: l, k + 1, h => by
    have hk : k < l.length := by simpa using h
    show (l[k] :: x :: l.eraseIdx k).Perm (x :: l)
    exact (List.Perm.swap _ _ _).trans ((erase_perm l k hk).cons x)
theorem hPopAt_nat {xs : List D} {k : Nat} {d : D} (h : xs[k]? = some d) (hk : k < 4611686018427387904) : hPopAt xs [.int (k : Nat)] = some (d, xs.eraseIdx k) := by
  have hl := (List.getElem?_eq_some_iff.mp h).1
  unfold hPopAt
  simp only
  rw [smI_of (by omega) (by omega), cond_true, ixN_natE, if_pos hl]
  simp only [h]
theorem noBs_ints (l : List Int) : noBs (l.map PyData.int) = true := noBs_of fun d h => by
  obtain ⟨i, _, rfl⟩ := List.mem_map.mp h
  simp [noB]
theorem dpths_ints (k : Nat) (l : List Int) : dpths k (l.map PyData.int) = true := dpths_of fun d h => by
  obtain ⟨i, _, rfl⟩ := List.mem_map.mp h
  simp [dpth]
theorem noB_ints (l : List Int) : noB (.list (l.map PyData.int)) = true := by simp only [noB]; exact noBs_ints l
theorem sh_ints (l : List Int) : SeqAt.shaped (.list (l.map PyData.int)) = true := shaped_by 1 (noB_ints l) (by simp only [dpth]; exact dpths_ints 0 l) (by decide)
theorem hNe_nil (l : List Int) : hNe (.list (l.map PyData.int)) (.list []) = some (.val (.bool (!decide (l = [])))) := by
  have h0 := sh_ints []
  rw [List.map_nil] at h0
  by_cases h : l = []
  · subst h
    rw [List.map_nil, hNe_t h0 h0 (by simp [PyData.eqv, PyData.eqvAll])]
    rfl
  · rw [hNe_f (sh_ints l) h0 (eqv_ne (noB_ints l) (by simp [noB, noBs]) fun q => h (by simpa using q)), decide_eq_false h]
    rfl
/-- 0 .. n - 1 -/
def upto (n : Nat) : List Int := (List.range n).map fun i : Nat => (i : Int)
theorem upto_length (n : Nat) : (upto n).length = n := by unfold upto; rw [List.length_map, List.length_range]
theorem rgL_upto (n : Nat) : rgL 0 (n : Nat) = (upto n).map PyData.int := by
  unfold rgL upto
  rw [List.map_map]
  refine List.map_congr_left fun i _ => ?_
  simp only [Function.comp_apply, Int.zero_add]
theorem rng_upto (n : Nat) : rng 0 n = (upto n).map PyData.int := by
  unfold rng upto
  rw [List.map_map]
  refine List.map_congr_left fun i _ => ?_
  simp only [Function.comp_apply, Int.zero_add]
theorem hLR1_nat {n : Nat} (h : n ≤ 1000) : hLR1 (.int (n : Nat)) = some (.fresh (.list ((upto n).map PyData.int))) := by
  have : rgOk 0 (n : Nat) = true := by
    unfold rgOk
    rw [smI_of (by omega) (by omega), smI_of (by omega) (by omega), decide_eq_true (by omega)]
    rfl
  unfold hLR1
  simp only [this, cond_true, rgL_upto]
theorem take_nat (n : Int) {m : Nat} (h0 : 0 < m) (h1 : m ≤ 1000) : ∃ (n' : Int) (d : Nat), d < m ∧ d_take [.own 1 (.list [.int n]), .dat (.int (m : Nat))] = some (.inr (false, .int (d : Nat)), [.own 1 (.list [.int n']), .no]) := by
  obtain ⟨n', d, h2, h3, e⟩ := take_ex n (m := (m : Nat)) (by omega) (by omega)
  refine ⟨n', d.toNat, by omega, ?_⟩
  have : ((d.toNat : Nat) : Int) = d := by omega
  rw [this]
  exact e
/-- a change: its root, its longs, its order -/
abbrev chD (r : Int) (longs : List D) (order : List Int) : D := .tuple [.int r, .tuple longs, .tuple (order.map PyData.int)]
theorem longs_ex (S1 S2 : Sl) (r : Int) (br : Bt 60 r) (R : Sl) (many : Nat) (hm : many ≤ 1000) (n : Int) : ∃ (n' : Int) (longs : List D), longs.length = many ∧ (∀ x ∈ longs, GoodL r x) ∧
    fLc [9] (fiR1 (dCons (fVar 4) dNil)) (kName 9) tYesF (fCall d_long (aBoxN 0 (aCons (fVar 3) aNil))) [.own 1 (.list [.int n]), S1, S2, .dat (.int r), .dat (.int (many : Nat)), .no, .no, .no, .no, .no] =
      some (.inr (.fresh (.list longs)), [.own 1 (.list [.int n']), S1, S2, .dat (.int r), .dat (.int (many : Nat)), .no, .no, .no, .no, .no]) := by
  obtain ⟨out, fs', e1, ⟨n', rfl⟩, e3, e4⟩ := lcL_inv (vs := [9]) (g := kName 9) (fe := fCall d_long (aBoxN 0 (aCons (fVar 3) aNil))) (fun fs => ∃ n, fs = [.own 1 (.list [.int n]), S1, S2, .dat (.int r), .dat (.int (many : Nat)), .no, .no, .no, .no, .no]) (GoodL r)
    ((upto many).map PyData.int) [] _ (by rw [List.length_nil, List.length_map, upto_length]; exact szl _ (by omega)) ⟨n, rfl⟩ (by
      rintro d hd fs ⟨n, rfl⟩
      obtain ⟨n', x, hx, ex⟩ := long_ex n r br
      exact ⟨_, [.own 1 (.list [.int n']), S1, S2, .dat (.int r), .dat (.int (many : Nat)), .no, .no, .no, .no, .dat d], x, rfl, by simp only [mkFn, sCons, sSet, sPar, sUnp, sIf, sRet, sRetN, sDrop, sNil, sBrk, sCnt, bndS, bnd, rt, opt, fVar, fVal, fBin, fUn, rd1, rd2, Rv.rd, Sl.rd, fD, fzM, Rv.fz, fCons, fNil, dCons, dNil, aCons, aNil, aBoxN, aBox, fCall, resolve, boxes, bxpos, wb, fNm, rdAll, fTup, fLst, hAdd, hSub, hInt2, hMulL, hLt, hLe, hGt, hGe, hNeg, hAbs, hLen, hInt1, hMax2, hMin2, hIx, fSl, oNone, oSome, hSl, fB, toB, fAnd, fOr, fNot, fAndV, fOrV, fNotV, fChain, kName, kTup, kCons, kNil, slOk, sStore, fMt, mtGo, hApp, hFdiv, hMod, hDivmod, outs, List.length_cons, List.length_nil, List.getElem?_cons_zero, List.getElem?_cons_succ, List.getElem?_nil, List.set_cons_zero, List.set_cons_succ, List.replicate_succ, List.replicate_zero, List.cons_append, List.nil_append, Option.bind_some, Option.map_some, cond_true, cond_false, ite_true, ite_false, Nat.reduceAdd, Nat.reduceSub, Nat.reduceEqDiff, Nat.reduceLeDiff, if_true, if_false, reduceIte, atI_n0, atI_n1, atI_n2, atI_n3, ixN_10, ixN_20, ixN_21, hEq_int, hNe_int, Bool.not_true, decide_true, decide_false, hTuple, sTryK, sRaise, Bool.false_eq_true, Bool.not_false, sz0, sz1, sz2, sz3, sz4, sz5, sz6, sz7, sz8, ex], hx, n', rfl⟩)
  rw [List.nil_append] at e1
  refine ⟨n', out, by rw [e3, List.length_map, upto_length], e4, ?_⟩
  refine fLc_of (ds := (upto many).map PyData.int) (fs1 := [.own 1 (.list [.int n]), S1, S2, .dat (.int r), .dat (.int (many : Nat)), .no, .no, .no, .no, .no]) ?_ e1
  have h1 : smI ((many : Nat) : Int) = true := smI_of (by omega) (by omega)
  simp only [fiR1, mkFn, sCons, sSet, sPar, sUnp, sIf, sRet, sRetN, sDrop, sNil, sBrk, sCnt, bndS, bnd, rt, opt, fVar, fVal, fBin, fUn, rd1, rd2, Rv.rd, Sl.rd, fD, fzM, Rv.fz, fCons, fNil, dCons, dNil, aCons, aNil, aBoxN, aBox, fCall, resolve, boxes, bxpos, wb, fNm, rdAll, fTup, fLst, hAdd, hSub, hInt2, hMulL, hLt, hLe, hGt, hGe, hNeg, hAbs, hLen, hInt1, hMax2, hMin2, hIx, fSl, oNone, oSome, hSl, fB, toB, fAnd, fOr, fNot, fAndV, fOrV, fNotV, fChain, kName, kTup, kCons, kNil, slOk, sStore, fMt, mtGo, hApp, hFdiv, hMod, hDivmod, outs, List.length_cons, List.length_nil, List.getElem?_cons_zero, List.getElem?_cons_succ, List.getElem?_nil, List.set_cons_zero, List.set_cons_succ, List.replicate_succ, List.replicate_zero, List.cons_append, List.nil_append, Option.bind_some, Option.map_some, cond_true, cond_false, ite_true, ite_false, Nat.reduceAdd, Nat.reduceSub, Nat.reduceEqDiff, Nat.reduceLeDiff, if_true, if_false, reduceIte, atI_n0, atI_n1, atI_n2, atI_n3, ixN_10, ixN_20, ixN_21, hEq_int, hNe_int, Bool.not_true, decide_true, decide_false, hTuple, sTryK, sRaise, Bool.false_eq_true, Bool.not_false, sz0, sz1, sz2, sz3, sz4, sz5, sz6, sz7, sz8, h1, rng_upto, Int.toNat_natCast]
theorem order_ex (S1 S2 S3 S4 S5 : Sl) (way : Int) (N : Nat) (hN : N ≤ 1000) (n : Int) : ∃ (n' : Int) (order : List Int), order.Perm (upto N) ∧
    sWhile (fB (fBin hNe (fVar 6) (fLst dNil))) (sDrop (fMt 7 hApp (dCons (fMt 6 hPopAt (dCons (fBin hIx (fLst (dCons (fCall d_take (aBoxN 0 (aCons (fNm hLen (fCons (fVar 6) fNil)) aNil))) (dCons (fBin hSub (fNm hLen (fCons (fVar 6) fNil)) (fVal (.int 1))) dNil))) (fNm hInt1 (fCons (fBin hEq (fVar 8) (fVal (.int 0))) fNil))) dNil)) dNil)))
      [.own 1 (.list [.int n]), S1, S2, S3, S4, S5, .own 0 (.list ((upto N).map PyData.int)), .own 0 (.list []), .dat (.int way), .no] =
      some (.nx, [.own 1 (.list [.int n']), S1, S2, S3, S4, S5, .own 0 (.list []), .own 0 (.list (order.map PyData.int)), .dat (.int way), .no]) := by
  obtain ⟨fs', e, n', order, hp, rfl⟩ := sWhile_ind (c := fB (fBin hNe (fVar 6) (fLst dNil))) (b := sDrop (fMt 7 hApp (dCons (fMt 6 hPopAt (dCons (fBin hIx (fLst (dCons (fCall d_take (aBoxN 0 (aCons (fNm hLen (fCons (fVar 6) fNil)) aNil))) (dCons (fBin hSub (fNm hLen (fCons (fVar 6) fNil)) (fVal (.int 1))) dNil))) (fNm hInt1 (fCons (fBin hEq (fVar 8) (fVal (.int 0))) fNil))) dNil)) dNil)))
    (fun m fs => ∃ (n : Int) (left ord : List Int), left.length = m ∧ (left ++ ord).Perm (upto N) ∧ fs = [.own 1 (.list [.int n]), S1, S2, S3, S4, S5, .own 0 (.list (left.map PyData.int)), .own 0 (.list (ord.map PyData.int)), .dat (.int way), .no])
    (fun fs => ∃ (n : Int) (ord : List Int), ord.Perm (upto N) ∧ fs = [.own 1 (.list [.int n]), S1, S2, S3, S4, S5, .own 0 (.list []), .own 0 (.list (ord.map PyData.int)), .dat (.int way), .no])
    (by
      rintro m fs ⟨n, left, ord, hm, hp, rfl⟩
      by_cases h : left = []
      · subst h
        have ed : decide (([] : List Int) = []) = true := rfl
        exact .inl ⟨_, by simp only [mkFn, sCons, sSet, sPar, sUnp, sIf, sRet, sRetN, sDrop, sNil, sBrk, sCnt, bndS, bnd, rt, opt, fVar, fVal, fBin, fUn, rd1, rd2, Rv.rd, Sl.rd, fD, fzM, Rv.fz, fCons, fNil, dCons, dNil, aCons, aNil, aBoxN, aBox, fCall, resolve, boxes, bxpos, wb, fNm, rdAll, fTup, fLst, hAdd, hSub, hInt2, hMulL, hLt, hLe, hGt, hGe, hNeg, hAbs, hLen, hInt1, hMax2, hMin2, hIx, fSl, oNone, oSome, hSl, fB, toB, fAnd, fOr, fNot, fAndV, fOrV, fNotV, fChain, kName, kTup, kCons, kNil, slOk, sStore, fMt, mtGo, hApp, hFdiv, hMod, hDivmod, outs, List.length_cons, List.length_nil, List.getElem?_cons_zero, List.getElem?_cons_succ, List.getElem?_nil, List.set_cons_zero, List.set_cons_succ, List.replicate_succ, List.replicate_zero, List.cons_append, List.nil_append, Option.bind_some, Option.map_some, cond_true, cond_false, ite_true, ite_false, Nat.reduceAdd, Nat.reduceSub, Nat.reduceEqDiff, Nat.reduceLeDiff, if_true, if_false, reduceIte, atI_n0, atI_n1, atI_n2, atI_n3, ixN_10, ixN_20, ixN_21, hEq_int, hNe_int, Bool.not_true, decide_true, decide_false, hTuple, sTryK, sRaise, Bool.false_eq_true, Bool.not_false, sz0, sz1, sz2, sz3, sz4, sz5, sz6, sz7, sz8, hNe_nil, ed]; rfl, n, ord, hp, rfl⟩
      · right
        have hl : 0 < left.length := List.length_pos_iff.mpr h
        have hlen := hp.length_eq
        rw [List.length_append, upto_length] at hlen
        have ed := decide_eq_false h
        obtain ⟨n', d, hd, et⟩ := take_nat n (m := left.length) hl (by omega)
        have hz : (ord.length < sizeLine) = True := eq_true (Nat.lt_of_lt_of_le (show ord.length < 1001 by omega) (szl _ (by decide)))
        have fin : ∀ k : Nat, k < left.length → ∃ x : Int, (left.map PyData.int)[k]? = some (.int x) ∧ ((left.eraseIdx k) ++ (ord ++ [x])).Perm (upto N) := fun k hk => by
          refine ⟨left[k], by rw [List.getElem?_map, List.getElem?_eq_getElem hk]; rfl, ?_⟩
          refine List.Perm.trans ?_ hp
          rw [← List.append_assoc]
          refine (List.perm_append_comm).trans ?_
          show (left[k] :: (left.eraseIdx k ++ ord)).Perm (left ++ ord)
          exact (erase_perm left k hk).append_right ord
        have el : ((left.length : Nat) : Int) - 1 = ((left.length - 1 : Nat) : Int) := by omega
        by_cases hw : way = 0
        · have ew := decide_eq_true hw
          obtain ⟨x, h1, h2⟩ := fin (left.length - 1) (by omega)
          refine ⟨_, [.own 1 (.list [.int n']), S1, S2, S3, S4, S5, .own 0 (.list ((left.eraseIdx (left.length - 1)).map PyData.int)), .own 0 (.list ((ord ++ [x]).map PyData.int)), .dat (.int way), .no], (left.eraseIdx (left.length - 1)).length, ?_, by simp only [mkFn, sCons, sSet, sPar, sUnp, sIf, sRet, sRetN, sDrop, sNil, sBrk, sCnt, bndS, bnd, rt, opt, fVar, fVal, fBin, fUn, rd1, rd2, Rv.rd, Sl.rd, fD, fzM, Rv.fz, fCons, fNil, dCons, dNil, aCons, aNil, aBoxN, aBox, fCall, resolve, boxes, bxpos, wb, fNm, rdAll, fTup, fLst, hAdd, hSub, hInt2, hMulL, hLt, hLe, hGt, hGe, hNeg, hAbs, hLen, hInt1, hMax2, hMin2, hIx, fSl, oNone, oSome, hSl, fB, toB, fAnd, fOr, fNot, fAndV, fOrV, fNotV, fChain, kName, kTup, kCons, kNil, slOk, sStore, fMt, mtGo, hApp, hFdiv, hMod, hDivmod, outs, List.length_cons, List.length_nil, List.getElem?_cons_zero, List.getElem?_cons_succ, List.getElem?_nil, List.set_cons_zero, List.set_cons_succ, List.replicate_succ, List.replicate_zero, List.cons_append, List.nil_append, Option.bind_some, Option.map_some, cond_true, cond_false, ite_true, ite_false, Nat.reduceAdd, Nat.reduceSub, Nat.reduceEqDiff, Nat.reduceLeDiff, if_true, if_false, reduceIte, atI_n0, atI_n1, atI_n2, atI_n3, ixN_10, ixN_20, ixN_21, hEq_int, hNe_int, Bool.not_true, decide_true, decide_false, hTuple, sTryK, sRaise, Bool.false_eq_true, Bool.not_false, sz0, sz1, sz2, sz3, sz4, sz5, sz6, sz7, sz8, hNe_nil, ed]; rfl, ?_, n', _, _, rfl, h2, rfl⟩
          · rw [List.length_eraseIdx_of_lt (by omega)]; omega
          · have hpop := hPopAt_nat h1 (by omega)
            simp only [mkFn, sCons, sSet, sPar, sUnp, sIf, sRet, sRetN, sDrop, sNil, sBrk, sCnt, bndS, bnd, rt, opt, fVar, fVal, fBin, fUn, rd1, rd2, Rv.rd, Sl.rd, fD, fzM, Rv.fz, fCons, fNil, dCons, dNil, aCons, aNil, aBoxN, aBox, fCall, resolve, boxes, bxpos, wb, fNm, rdAll, fTup, fLst, hAdd, hSub, hInt2, hMulL, hLt, hLe, hGt, hGe, hNeg, hAbs, hLen, hInt1, hMax2, hMin2, hIx, fSl, oNone, oSome, hSl, fB, toB, fAnd, fOr, fNot, fAndV, fOrV, fNotV, fChain, kName, kTup, kCons, kNil, slOk, sStore, fMt, mtGo, hApp, hFdiv, hMod, hDivmod, outs, List.length_cons, List.length_nil, List.getElem?_cons_zero, List.getElem?_cons_succ, List.getElem?_nil, List.set_cons_zero, List.set_cons_succ, List.replicate_succ, List.replicate_zero, List.cons_append, List.nil_append, Option.bind_some, Option.map_some, cond_true, cond_false, ite_true, ite_false, Nat.reduceAdd, Nat.reduceSub, Nat.reduceEqDiff, Nat.reduceLeDiff, if_true, if_false, reduceIte, atI_n0, atI_n1, atI_n2, atI_n3, ixN_10, ixN_20, ixN_21, hEq_int, hNe_int, Bool.not_true, decide_true, decide_false, hTuple, sTryK, sRaise, Bool.false_eq_true, Bool.not_false, sz0, sz1, sz2, sz3, sz4, sz5, sz6, sz7, sz8, List.length_map, et, ew, el, hpop, hz, map_eraseIdx, List.map_append, List.map_cons, List.map_nil]
        · have ew := decide_eq_false hw
          obtain ⟨x, h1, h2⟩ := fin d hd
          refine ⟨_, [.own 1 (.list [.int n']), S1, S2, S3, S4, S5, .own 0 (.list ((left.eraseIdx d).map PyData.int)), .own 0 (.list ((ord ++ [x]).map PyData.int)), .dat (.int way), .no], (left.eraseIdx d).length, ?_, by simp only [mkFn, sCons, sSet, sPar, sUnp, sIf, sRet, sRetN, sDrop, sNil, sBrk, sCnt, bndS, bnd, rt, opt, fVar, fVal, fBin, fUn, rd1, rd2, Rv.rd, Sl.rd, fD, fzM, Rv.fz, fCons, fNil, dCons, dNil, aCons, aNil, aBoxN, aBox, fCall, resolve, boxes, bxpos, wb, fNm, rdAll, fTup, fLst, hAdd, hSub, hInt2, hMulL, hLt, hLe, hGt, hGe, hNeg, hAbs, hLen, hInt1, hMax2, hMin2, hIx, fSl, oNone, oSome, hSl, fB, toB, fAnd, fOr, fNot, fAndV, fOrV, fNotV, fChain, kName, kTup, kCons, kNil, slOk, sStore, fMt, mtGo, hApp, hFdiv, hMod, hDivmod, outs, List.length_cons, List.length_nil, List.getElem?_cons_zero, List.getElem?_cons_succ, List.getElem?_nil, List.set_cons_zero, List.set_cons_succ, List.replicate_succ, List.replicate_zero, List.cons_append, List.nil_append, Option.bind_some, Option.map_some, cond_true, cond_false, ite_true, ite_false, Nat.reduceAdd, Nat.reduceSub, Nat.reduceEqDiff, Nat.reduceLeDiff, if_true, if_false, reduceIte, atI_n0, atI_n1, atI_n2, atI_n3, ixN_10, ixN_20, ixN_21, hEq_int, hNe_int, Bool.not_true, decide_true, decide_false, hTuple, sTryK, sRaise, Bool.false_eq_true, Bool.not_false, sz0, sz1, sz2, sz3, sz4, sz5, sz6, sz7, sz8, hNe_nil, ed]; rfl, ?_, n', _, _, rfl, h2, rfl⟩
          · rw [List.length_eraseIdx_of_lt (by omega)]; omega
          · have hpop := hPopAt_nat h1 (by omega)
            simp only [mkFn, sCons, sSet, sPar, sUnp, sIf, sRet, sRetN, sDrop, sNil, sBrk, sCnt, bndS, bnd, rt, opt, fVar, fVal, fBin, fUn, rd1, rd2, Rv.rd, Sl.rd, fD, fzM, Rv.fz, fCons, fNil, dCons, dNil, aCons, aNil, aBoxN, aBox, fCall, resolve, boxes, bxpos, wb, fNm, rdAll, fTup, fLst, hAdd, hSub, hInt2, hMulL, hLt, hLe, hGt, hGe, hNeg, hAbs, hLen, hInt1, hMax2, hMin2, hIx, fSl, oNone, oSome, hSl, fB, toB, fAnd, fOr, fNot, fAndV, fOrV, fNotV, fChain, kName, kTup, kCons, kNil, slOk, sStore, fMt, mtGo, hApp, hFdiv, hMod, hDivmod, outs, List.length_cons, List.length_nil, List.getElem?_cons_zero, List.getElem?_cons_succ, List.getElem?_nil, List.set_cons_zero, List.set_cons_succ, List.replicate_succ, List.replicate_zero, List.cons_append, List.nil_append, Option.bind_some, Option.map_some, cond_true, cond_false, ite_true, ite_false, Nat.reduceAdd, Nat.reduceSub, Nat.reduceEqDiff, Nat.reduceLeDiff, if_true, if_false, reduceIte, atI_n0, atI_n1, atI_n2, atI_n3, ixN_10, ixN_20, ixN_21, hEq_int, hNe_int, Bool.not_true, decide_true, decide_false, hTuple, sTryK, sRaise, Bool.false_eq_true, Bool.not_false, sz0, sz1, sz2, sz3, sz4, sz5, sz6, sz7, sz8, List.length_map, et, ew, hpop, hz, map_eraseIdx, List.map_append, List.map_cons, List.map_nil])
    N _ ⟨n, upto N, [], upto_length N, by rw [List.append_nil], rfl⟩
  exact ⟨n', order, hp, e⟩
theorem change_ex (n : Int) (most : Nat) (h1 : 1 ≤ most) (h2 : most ≤ 900) (roots : List Int) (hne : roots ≠ []) (hlr : roots.length ≤ 900) (br : ∀ r ∈ roots, Bt 60 r) : ∃ (n' r : Int) (longs : List D) (order : List Int), r ∈ roots ∧ 1 ≤ longs.length ∧ longs.length ≤ most ∧ (∀ x ∈ longs, GoodL r x) ∧ order.Perm (upto longs.length) ∧
    d_change [.own 1 (.list [.int n]), .dat (.int (most : Nat)), .dat (.list (roots.map PyData.int))] = some (.inr (false, chD r longs order), [.own 1 (.list [.int n']), .no, .no]) := by
  obtain ⟨n1, d1, hd1, et1⟩ := take_nat n (m := roots.length) (List.length_pos_iff.mpr hne) (by omega)
  obtain ⟨n2, d2, hd2, et2⟩ := take_nat n1 (m := most) (by omega) (by omega)
  have hr : (roots.map PyData.int)[d1]? = some (.int roots[d1]) := by rw [List.getElem?_map, List.getElem?_eq_getElem hd1]; rfl
  obtain ⟨n3, longs, hl1, hl2, el⟩ := longs_ex (.dat (.int (most : Nat))) (.dat (.list (roots.map PyData.int))) roots[d1] (br _ (List.getElem_mem hd1)) .no (1 + d2) (by omega) n2
  obtain ⟨n4, d4, hd4, et4⟩ := take_nat n3 (m := 4) (by omega) (by omega)
  obtain ⟨n5, order, hp, eo⟩ := order_ex (.dat (.int (most : Nat))) (.dat (.list (roots.map PyData.int))) (.dat (.int roots[d1])) (.dat (.int ((1 + d2 : Nat)))) (.dat (.tuple longs)) (d4 : Nat) (1 + d2) (by omega) n4
  refine ⟨n5, roots[d1], longs, order, List.getElem_mem hd1, by omega, by omega, hl2, by rw [hl1]; exact hp, ?_⟩
  have em : (1 : Int) + (d2 : Nat) = ((1 + d2 : Nat) : Int) := by omega
  unfold d_change
  refine mkFn_ret rfl ?_ (fs := [.own 1 (.list [.int n5]), .dat (.int (most : Nat)), .dat (.list (roots.map PyData.int)), .dat (.int roots[d1]), .dat (.int ((1 + d2 : Nat))), .dat (.tuple longs), .own 0 (.list []), .own 0 (.list (order.map PyData.int)), .dat (.int (d4 : Nat)), .no])
  rw [sCons_nx (fs1 := [.own 1 (.list [.int n1]), .dat (.int (most : Nat)), .dat (.list (roots.map PyData.int)), .dat (.int roots[d1]), .no, .no, .no, .no, .no, .no]) (by simp only [mkFn, sCons, sSet, sPar, sUnp, sIf, sRet, sRetN, sDrop, sNil, sBrk, sCnt, bndS, bnd, rt, opt, fVar, fVal, fBin, fUn, rd1, rd2, Rv.rd, Sl.rd, fD, fzM, Rv.fz, fCons, fNil, dCons, dNil, aCons, aNil, aBoxN, aBox, fCall, resolve, boxes, bxpos, wb, fNm, rdAll, fTup, fLst, hAdd, hSub, hInt2, hMulL, hLt, hLe, hGt, hGe, hNeg, hAbs, hLen, hInt1, hMax2, hMin2, hIx, fSl, oNone, oSome, hSl, fB, toB, fAnd, fOr, fNot, fAndV, fOrV, fNotV, fChain, kName, kTup, kCons, kNil, slOk, sStore, fMt, mtGo, hApp, hFdiv, hMod, hDivmod, outs, List.length_cons, List.length_nil, List.getElem?_cons_zero, List.getElem?_cons_succ, List.getElem?_nil, List.set_cons_zero, List.set_cons_succ, List.replicate_succ, List.replicate_zero, List.cons_append, List.nil_append, Option.bind_some, Option.map_some, cond_true, cond_false, ite_true, ite_false, Nat.reduceAdd, Nat.reduceSub, Nat.reduceEqDiff, Nat.reduceLeDiff, if_true, if_false, reduceIte, atI_n0, atI_n1, atI_n2, atI_n3, ixN_10, ixN_20, ixN_21, hEq_int, hNe_int, Bool.not_true, decide_true, decide_false, hTuple, sTryK, sRaise, Bool.false_eq_true, Bool.not_false, sz0, sz1, sz2, sz3, sz4, sz5, sz6, sz7, sz8, List.length_map, et1, atI_natE, hr])]
  rw [sCons_nx (fs1 := [.own 1 (.list [.int n2]), .dat (.int (most : Nat)), .dat (.list (roots.map PyData.int)), .dat (.int roots[d1]), .dat (.int ((1 + d2 : Nat))), .no, .no, .no, .no, .no]) (by simp only [mkFn, sCons, sSet, sPar, sUnp, sIf, sRet, sRetN, sDrop, sNil, sBrk, sCnt, bndS, bnd, rt, opt, fVar, fVal, fBin, fUn, rd1, rd2, Rv.rd, Sl.rd, fD, fzM, Rv.fz, fCons, fNil, dCons, dNil, aCons, aNil, aBoxN, aBox, fCall, resolve, boxes, bxpos, wb, fNm, rdAll, fTup, fLst, hAdd, hSub, hInt2, hMulL, hLt, hLe, hGt, hGe, hNeg, hAbs, hLen, hInt1, hMax2, hMin2, hIx, fSl, oNone, oSome, hSl, fB, toB, fAnd, fOr, fNot, fAndV, fOrV, fNotV, fChain, kName, kTup, kCons, kNil, slOk, sStore, fMt, mtGo, hApp, hFdiv, hMod, hDivmod, outs, List.length_cons, List.length_nil, List.getElem?_cons_zero, List.getElem?_cons_succ, List.getElem?_nil, List.set_cons_zero, List.set_cons_succ, List.replicate_succ, List.replicate_zero, List.cons_append, List.nil_append, Option.bind_some, Option.map_some, cond_true, cond_false, ite_true, ite_false, Nat.reduceAdd, Nat.reduceSub, Nat.reduceEqDiff, Nat.reduceLeDiff, if_true, if_false, reduceIte, atI_n0, atI_n1, atI_n2, atI_n3, ixN_10, ixN_20, ixN_21, hEq_int, hNe_int, Bool.not_true, decide_true, decide_false, hTuple, sTryK, sRaise, Bool.false_eq_true, Bool.not_false, sz0, sz1, sz2, sz3, sz4, sz5, sz6, sz7, sz8, et2, em])]
  rw [sCons_nx (fs1 := [.own 1 (.list [.int n3]), .dat (.int (most : Nat)), .dat (.list (roots.map PyData.int)), .dat (.int roots[d1]), .dat (.int ((1 + d2 : Nat))), .dat (.tuple longs), .no, .no, .no, .no]) (by
    generalize fLc [9] (fiR1 (dCons (fVar 4) dNil)) (kName 9) tYesF (fCall d_long (aBoxN 0 (aCons (fVar 3) aNil))) = E at el ⊢
    simp only [mkFn, sCons, sSet, sPar, sUnp, sIf, sRet, sRetN, sDrop, sNil, sBrk, sCnt, bndS, bnd, rt, opt, fVar, fVal, fBin, fUn, rd1, rd2, Rv.rd, Sl.rd, fD, fzM, Rv.fz, fCons, fNil, dCons, dNil, aCons, aNil, aBoxN, aBox, fCall, resolve, boxes, bxpos, wb, fNm, rdAll, fTup, fLst, hAdd, hSub, hInt2, hMulL, hLt, hLe, hGt, hGe, hNeg, hAbs, hLen, hInt1, hMax2, hMin2, hIx, fSl, oNone, oSome, hSl, fB, toB, fAnd, fOr, fNot, fAndV, fOrV, fNotV, fChain, kName, kTup, kCons, kNil, slOk, sStore, fMt, mtGo, hApp, hFdiv, hMod, hDivmod, outs, List.length_cons, List.length_nil, List.getElem?_cons_zero, List.getElem?_cons_succ, List.getElem?_nil, List.set_cons_zero, List.set_cons_succ, List.replicate_succ, List.replicate_zero, List.cons_append, List.nil_append, Option.bind_some, Option.map_some, cond_true, cond_false, ite_true, ite_false, Nat.reduceAdd, Nat.reduceSub, Nat.reduceEqDiff, Nat.reduceLeDiff, if_true, if_false, reduceIte, atI_n0, atI_n1, atI_n2, atI_n3, ixN_10, ixN_20, ixN_21, hEq_int, hNe_int, Bool.not_true, decide_true, decide_false, hTuple, sTryK, sRaise, Bool.false_eq_true, Bool.not_false, sz0, sz1, sz2, sz3, sz4, sz5, sz6, sz7, sz8, el])]
  rw [sCons_nx (fs1 := [.own 1 (.list [.int n3]), .dat (.int (most : Nat)), .dat (.list (roots.map PyData.int)), .dat (.int roots[d1]), .dat (.int ((1 + d2 : Nat))), .dat (.tuple longs), .own 0 (.list ((upto (1 + d2)).map PyData.int)), .no, .no, .no]) (by simp only [mkFn, sCons, sSet, sPar, sUnp, sIf, sRet, sRetN, sDrop, sNil, sBrk, sCnt, bndS, bnd, rt, opt, fVar, fVal, fBin, fUn, rd1, rd2, Rv.rd, Sl.rd, fD, fzM, Rv.fz, fCons, fNil, dCons, dNil, aCons, aNil, aBoxN, aBox, fCall, resolve, boxes, bxpos, wb, fNm, rdAll, fTup, fLst, hAdd, hSub, hInt2, hMulL, hLt, hLe, hGt, hGe, hNeg, hAbs, hLen, hInt1, hMax2, hMin2, hIx, fSl, oNone, oSome, hSl, fB, toB, fAnd, fOr, fNot, fAndV, fOrV, fNotV, fChain, kName, kTup, kCons, kNil, slOk, sStore, fMt, mtGo, hApp, hFdiv, hMod, hDivmod, outs, List.length_cons, List.length_nil, List.getElem?_cons_zero, List.getElem?_cons_succ, List.getElem?_nil, List.set_cons_zero, List.set_cons_succ, List.replicate_succ, List.replicate_zero, List.cons_append, List.nil_append, Option.bind_some, Option.map_some, cond_true, cond_false, ite_true, ite_false, Nat.reduceAdd, Nat.reduceSub, Nat.reduceEqDiff, Nat.reduceLeDiff, if_true, if_false, reduceIte, atI_n0, atI_n1, atI_n2, atI_n3, ixN_10, ixN_20, ixN_21, hEq_int, hNe_int, Bool.not_true, decide_true, decide_false, hTuple, sTryK, sRaise, Bool.false_eq_true, Bool.not_false, sz0, sz1, sz2, sz3, sz4, sz5, sz6, sz7, sz8, hLR1_nat (show 1 + d2 ≤ 1000 by omega)])]
  rw [sCons_nx (fs1 := [.own 1 (.list [.int n3]), .dat (.int (most : Nat)), .dat (.list (roots.map PyData.int)), .dat (.int roots[d1]), .dat (.int ((1 + d2 : Nat))), .dat (.tuple longs), .own 0 (.list ((upto (1 + d2)).map PyData.int)), .own 0 (.list []), .no, .no]) (by simp only [mkFn, sCons, sSet, sPar, sUnp, sIf, sRet, sRetN, sDrop, sNil, sBrk, sCnt, bndS, bnd, rt, opt, fVar, fVal, fBin, fUn, rd1, rd2, Rv.rd, Sl.rd, fD, fzM, Rv.fz, fCons, fNil, dCons, dNil, aCons, aNil, aBoxN, aBox, fCall, resolve, boxes, bxpos, wb, fNm, rdAll, fTup, fLst, hAdd, hSub, hInt2, hMulL, hLt, hLe, hGt, hGe, hNeg, hAbs, hLen, hInt1, hMax2, hMin2, hIx, fSl, oNone, oSome, hSl, fB, toB, fAnd, fOr, fNot, fAndV, fOrV, fNotV, fChain, kName, kTup, kCons, kNil, slOk, sStore, fMt, mtGo, hApp, hFdiv, hMod, hDivmod, outs, List.length_cons, List.length_nil, List.getElem?_cons_zero, List.getElem?_cons_succ, List.getElem?_nil, List.set_cons_zero, List.set_cons_succ, List.replicate_succ, List.replicate_zero, List.cons_append, List.nil_append, Option.bind_some, Option.map_some, cond_true, cond_false, ite_true, ite_false, Nat.reduceAdd, Nat.reduceSub, Nat.reduceEqDiff, Nat.reduceLeDiff, if_true, if_false, reduceIte, atI_n0, atI_n1, atI_n2, atI_n3, ixN_10, ixN_20, ixN_21, hEq_int, hNe_int, Bool.not_true, decide_true, decide_false, hTuple, sTryK, sRaise, Bool.false_eq_true, Bool.not_false, sz0, sz1, sz2, sz3, sz4, sz5, sz6, sz7, sz8])]
  rw [sCons_nx (fs1 := [.own 1 (.list [.int n4]), .dat (.int (most : Nat)), .dat (.list (roots.map PyData.int)), .dat (.int roots[d1]), .dat (.int ((1 + d2 : Nat))), .dat (.tuple longs), .own 0 (.list ((upto (1 + d2)).map PyData.int)), .own 0 (.list []), .dat (.int (d4 : Nat)), .no]) (by
    have e4 : d_take [.own 1 (.list [.int n3]), .dat (.int 4)] = _ := et4
    simp only [mkFn, sCons, sSet, sPar, sUnp, sIf, sRet, sRetN, sDrop, sNil, sBrk, sCnt, bndS, bnd, rt, opt, fVar, fVal, fBin, fUn, rd1, rd2, Rv.rd, Sl.rd, fD, fzM, Rv.fz, fCons, fNil, dCons, dNil, aCons, aNil, aBoxN, aBox, fCall, resolve, boxes, bxpos, wb, fNm, rdAll, fTup, fLst, hAdd, hSub, hInt2, hMulL, hLt, hLe, hGt, hGe, hNeg, hAbs, hLen, hInt1, hMax2, hMin2, hIx, fSl, oNone, oSome, hSl, fB, toB, fAnd, fOr, fNot, fAndV, fOrV, fNotV, fChain, kName, kTup, kCons, kNil, slOk, sStore, fMt, mtGo, hApp, hFdiv, hMod, hDivmod, outs, List.length_cons, List.length_nil, List.getElem?_cons_zero, List.getElem?_cons_succ, List.getElem?_nil, List.set_cons_zero, List.set_cons_succ, List.replicate_succ, List.replicate_zero, List.cons_append, List.nil_append, Option.bind_some, Option.map_some, cond_true, cond_false, ite_true, ite_false, Nat.reduceAdd, Nat.reduceSub, Nat.reduceEqDiff, Nat.reduceLeDiff, if_true, if_false, reduceIte, atI_n0, atI_n1, atI_n2, atI_n3, ixN_10, ixN_20, ixN_21, hEq_int, hNe_int, Bool.not_true, decide_true, decide_false, hTuple, sTryK, sRaise, Bool.false_eq_true, Bool.not_false, sz0, sz1, sz2, sz3, sz4, sz5, sz6, sz7, sz8, e4])]
  rw [sCons_nx (fs1 := [.own 1 (.list [.int n5]), .dat (.int (most : Nat)), .dat (.list (roots.map PyData.int)), .dat (.int roots[d1]), .dat (.int ((1 + d2 : Nat))), .dat (.tuple longs), .own 0 (.list []), .own 0 (.list (order.map PyData.int)), .dat (.int (d4 : Nat)), .no]) eo]
  simp only [mkFn, sCons, sSet, sPar, sUnp, sIf, sRet, sRetN, sDrop, sNil, sBrk, sCnt, bndS, bnd, rt, opt, fVar, fVal, fBin, fUn, rd1, rd2, Rv.rd, Sl.rd, fD, fzM, Rv.fz, fCons, fNil, dCons, dNil, aCons, aNil, aBoxN, aBox, fCall, resolve, boxes, bxpos, wb, fNm, rdAll, fTup, fLst, hAdd, hSub, hInt2, hMulL, hLt, hLe, hGt, hGe, hNeg, hAbs, hLen, hInt1, hMax2, hMin2, hIx, fSl, oNone, oSome, hSl, fB, toB, fAnd, fOr, fNot, fAndV, fOrV, fNotV, fChain, kName, kTup, kCons, kNil, slOk, sStore, fMt, mtGo, hApp, hFdiv, hMod, hDivmod, outs, List.length_cons, List.length_nil, List.getElem?_cons_zero, List.getElem?_cons_succ, List.getElem?_nil, List.set_cons_zero, List.set_cons_succ, List.replicate_succ, List.replicate_zero, List.cons_append, List.nil_append, Option.bind_some, Option.map_some, cond_true, cond_false, ite_true, ite_false, Nat.reduceAdd, Nat.reduceSub, Nat.reduceEqDiff, Nat.reduceLeDiff, if_true, if_false, reduceIte, atI_n0, atI_n1, atI_n2, atI_n3, ixN_10, ixN_20, ixN_21, hEq_int, hNe_int, Bool.not_true, decide_true, decide_false, hTuple, sTryK, sRaise, Bool.false_eq_true, Bool.not_false, sz0, sz1, sz2, sz3, sz4, sz5, sz6, sz7, sz8]
/-! ### small lists -/
theorem upto_mem {n : Nat} {x : Int} : x ∈ upto n ↔ 0 ≤ x ∧ x < n := by
  unfold upto
  constructor
  · intro h
    obtain ⟨i, h1, rfl⟩ := List.mem_map.mp h
    have := List.mem_range.mp h1
    omega
  · intro h
    exact List.mem_map.mpr ⟨x.toNat, List.mem_range.mpr (by omega), by omega⟩
theorem upto_rising (n : Nat) : (upto n).Pairwise (· < ·) := by
  unfold upto
  rw [List.pairwise_map]
  exact (List.pairwise_lt_range (n := n)).imp fun h => by omega
theorem upto_nodup (n : Nat) : (upto n).Nodup := (upto_rising n).imp fun h => by omega
theorem ints_inj : ∀ {l m : List Int}, l.map PyData.int = m.map PyData.int → l = m
  | [], [], _ => rfl
  | [], _ :: _, h => by cases h
  | _ :: _, [], h => by cases h
  | a :: l, b :: m, h => by
    rw [List.map_cons, List.map_cons] at h
    injection h with h1 h2
    injection h1 with h1
    rw [h1, ints_inj h2]
theorem hEq_ints (l m : List Int) : hEq (.list (l.map PyData.int)) (.list (m.map PyData.int)) = some (.val (.bool (decide (l = m)))) := by
  by_cases h : l = m
  · subst h
    rw [hEq_t (sh_ints _) (sh_ints _) (eqv_same (noB_ints _)), decide_eq_true rfl]
  · have : PyData.list (l.map PyData.int) ≠ .list (m.map PyData.int) := fun q => h (ints_inj (by simpa using q))
    rw [hEq_f (sh_ints _) (sh_ints _) (eqv_ne (noB_ints _) (noB_ints _) this), decide_eq_false h]
theorem len_le {n : Nat} (h : n ≤ 1000) : n ≤ sizeLine := szl n (by omega)
theorem len900 (l : List Int) (h : l.length ≤ 900) : ([] : List D).length + (l.map PyData.int).length ≤ sizeLine := by
  rw [List.length_nil, List.length_map]
  exact len_le (by omega)
theorem filter_ints (p : Int → Bool) (q : D → Bool) (l : List Int) (h : ∀ x ∈ l, q (.int x) = p x) : ((l.map PyData.int).filter q).map id = (l.filter p).map PyData.int := by
  rw [List.map_id]
  induction l with
  | nil => rfl
  | cons x l ih =>
    rw [List.map_cons]
    have hx := h x List.mem_cons_self
    cases e : p x with
    | true => rw [List.filter_cons_of_pos (by rw [hx, e]), List.filter_cons_of_pos e, List.map_cons, ih fun y hy => h y (List.mem_cons_of_mem _ hy)]
    | false => rw [List.filter_cons_of_neg (by rw [hx, e]; decide), List.filter_cons_of_neg (by rw [e]; decide), ih fun y hy => h y (List.mem_cons_of_mem _ hy)]
theorem upto_add (a b : Nat) : upto (a + b) = upto a ++ (upto b).map (fun x => x + (a : Int)) := by
  unfold upto
  rw [List.range_add, List.map_append, List.map_map, List.map_map]
  congr 1
  refine List.map_congr_left fun i _ => ?_
  simp only [Function.comp_apply]
  omega
/-! ### the program's numbers; lowest terms are one of a kind -/
theorem gcd_step (m o : Int) : Int.gcd m o = Int.gcd o (m.fmod o) := by
  have h := Int.gcd_add_mul_right_right o (m.fmod o) (m.fdiv o)
  have e : m.fmod o + m.fdiv o * o = m := by rw [Int.mul_comm]; exact Int.fmod_add_mul_fdiv m o
  rw [e] at h
  rw [Int.gcd_comm, h]
theorem fmod_small (m : Int) {o : Int} (h : o ≠ 0) : (m.fmod o).natAbs < o.natAbs := by
  rcases Int.lt_or_lt_of_ne h with h | h
  · have e := Int.neg_fmod_neg (-m) (-o)
    rw [Int.neg_neg, Int.neg_neg] at e
    have h1 := Int.fmod_nonneg_of_pos (-m) (show (0 : Int) < -o by omega)
    have h2 := Int.fmod_lt_of_pos (-m) (show (0 : Int) < -o by omega)
    omega
  · have h1 := Int.fmod_nonneg_of_pos m h
    have h2 := Int.fmod_lt_of_pos m h
    omega
theorem div_loop : ∀ (k : Nat) (o m : Int), o.natAbs ≤ k → ∃ g : Int, g.natAbs = Int.gcd m o ∧ sWhile (fB (fBin hNe (fVar 1) (fVal (.int 0)))) (sPar 0 1 (dCons (fVar 1) (dCons (fBin hMod (fVar 0) (fVar 1)) dNil))) [.dat (.int m), .dat (.int o)] = some (.nx, [.dat (.int g), .dat (.int 0)])
  | k, o, m, hk => by
    by_cases h : o = 0
    · subst h
      refine ⟨m, by rw [Int.gcd_zero_right], ?_⟩
      have e0 : decide ((0 : Int) = 0) = true := rfl
      exact sWhile_stop (by simp only [mkFn, sCons, sSet, sPar, sUnp, sIf, sRet, sRetN, sDrop, sNil, sBrk, sCnt, bndS, bnd, rt, opt, fVar, fVal, fBin, fUn, rd1, rd2, Rv.rd, Sl.rd, fD, fzM, Rv.fz, fCons, fNil, dCons, dNil, aCons, aNil, aBoxN, aBox, fCall, resolve, boxes, bxpos, wb, fNm, rdAll, fTup, fLst, hAdd, hSub, hInt2, hMulL, hLt, hLe, hGt, hGe, hNeg, hAbs, hLen, hInt1, hMax2, hMin2, hIx, fSl, oNone, oSome, hSl, fB, toB, fAnd, fOr, fNot, fAndV, fOrV, fNotV, fChain, kName, kTup, kCons, kNil, slOk, sStore, fMt, mtGo, hApp, hFdiv, hMod, hDivmod, outs, List.length_cons, List.length_nil, List.getElem?_cons_zero, List.getElem?_cons_succ, List.getElem?_nil, List.set_cons_zero, List.set_cons_succ, List.replicate_succ, List.replicate_zero, List.cons_append, List.nil_append, Option.bind_some, Option.map_some, cond_true, cond_false, ite_true, ite_false, Nat.reduceAdd, Nat.reduceSub, Nat.reduceEqDiff, Nat.reduceLeDiff, if_true, if_false, reduceIte, atI_n0, atI_n1, atI_n2, atI_n3, ixN_10, ixN_20, ixN_21, hEq_int, hNe_int, Bool.not_true, decide_true, decide_false, hTuple, sTryK, sRaise, Bool.false_eq_true, Bool.not_false, sz0, sz1, sz2, sz3, sz4, sz5, sz6, sz7, sz8])
    · have hs := fmod_small m h
      match k, hk with
      | 0, hk => omega
      | k + 1, hk =>
        obtain ⟨g, h1, h2⟩ := div_loop k (m.fmod o) o (by omega)
        refine ⟨g, by rw [h1, ← gcd_step], ?_⟩
        have e1 : decide (o = 0) = false := decide_eq_false h
        have e2 : (o != 0) = true := by simpa using h
        rw [sWhile_turn (fs1 := [.dat (.int m), .dat (.int o)]) (fs2 := [.dat (.int o), .dat (.int (m.fmod o))]) (by simp only [mkFn, sCons, sSet, sPar, sUnp, sIf, sRet, sRetN, sDrop, sNil, sBrk, sCnt, bndS, bnd, rt, opt, fVar, fVal, fBin, fUn, rd1, rd2, Rv.rd, Sl.rd, fD, fzM, Rv.fz, fCons, fNil, dCons, dNil, aCons, aNil, aBoxN, aBox, fCall, resolve, boxes, bxpos, wb, fNm, rdAll, fTup, fLst, hAdd, hSub, hInt2, hMulL, hLt, hLe, hGt, hGe, hNeg, hAbs, hLen, hInt1, hMax2, hMin2, hIx, fSl, oNone, oSome, hSl, fB, toB, fAnd, fOr, fNot, fAndV, fOrV, fNotV, fChain, kName, kTup, kCons, kNil, slOk, sStore, fMt, mtGo, hApp, hFdiv, hMod, hDivmod, outs, List.length_cons, List.length_nil, List.getElem?_cons_zero, List.getElem?_cons_succ, List.getElem?_nil, List.set_cons_zero, List.set_cons_succ, List.replicate_succ, List.replicate_zero, List.cons_append, List.nil_append, Option.bind_some, Option.map_some, cond_true, cond_false, ite_true, ite_false, Nat.reduceAdd, Nat.reduceSub, Nat.reduceEqDiff, Nat.reduceLeDiff, if_true, if_false, reduceIte, atI_n0, atI_n1, atI_n2, atI_n3, ixN_10, ixN_20, ixN_21, hEq_int, hNe_int, Bool.not_true, decide_true, decide_false, hTuple, sTryK, sRaise, Bool.false_eq_true, Bool.not_false, sz0, sz1, sz2, sz3, sz4, sz5, sz6, sz7, sz8, e1]) (by simp only [mkFn, sCons, sSet, sPar, sUnp, sIf, sRet, sRetN, sDrop, sNil, sBrk, sCnt, bndS, bnd, rt, opt, fVar, fVal, fBin, fUn, rd1, rd2, Rv.rd, Sl.rd, fD, fzM, Rv.fz, fCons, fNil, dCons, dNil, aCons, aNil, aBoxN, aBox, fCall, resolve, boxes, bxpos, wb, fNm, rdAll, fTup, fLst, hAdd, hSub, hInt2, hMulL, hLt, hLe, hGt, hGe, hNeg, hAbs, hLen, hInt1, hMax2, hMin2, hIx, fSl, oNone, oSome, hSl, fB, toB, fAnd, fOr, fNot, fAndV, fOrV, fNotV, fChain, kName, kTup, kCons, kNil, slOk, sStore, fMt, mtGo, hApp, hFdiv, hMod, hDivmod, outs, List.length_cons, List.length_nil, List.getElem?_cons_zero, List.getElem?_cons_succ, List.getElem?_nil, List.set_cons_zero, List.set_cons_succ, List.replicate_succ, List.replicate_zero, List.cons_append, List.nil_append, Option.bind_some, Option.map_some, cond_true, cond_false, ite_true, ite_false, Nat.reduceAdd, Nat.reduceSub, Nat.reduceEqDiff, Nat.reduceLeDiff, if_true, if_false, reduceIte, atI_n0, atI_n1, atI_n2, atI_n3, ixN_10, ixN_20, ixN_21, hEq_int, hNe_int, Bool.not_true, decide_true, decide_false, hTuple, sTryK, sRaise, Bool.false_eq_true, Bool.not_false, sz0, sz1, sz2, sz3, sz4, sz5, sz6, sz7, sz8, e2])]
        exact h2
theorem divisor_eq (a b : Int) : d_p_divisor [.dat (.int a), .dat (.int b)] = some (.inr (false, .int (Int.gcd a b : Nat)), [.no, .no]) := by
  obtain ⟨g, h1, h2⟩ := div_loop b.natAbs b a (Nat.le_refl _)
  unfold d_p_divisor
  refine mkFn_ret (fs := [.dat (.int g), .dat (.int 0)]) rfl ?_
  show sCons _ _ [.dat (.int a), .dat (.int b)] = _
  rw [sCons_nx (fs1 := [.dat (.int g), .dat (.int 0)]) h2]
  simp only [mkFn, sCons, sSet, sPar, sUnp, sIf, sRet, sRetN, sDrop, sNil, sBrk, sCnt, bndS, bnd, rt, opt, fVar, fVal, fBin, fUn, rd1, rd2, Rv.rd, Sl.rd, fD, fzM, Rv.fz, fCons, fNil, dCons, dNil, aCons, aNil, aBoxN, aBox, fCall, resolve, boxes, bxpos, wb, fNm, rdAll, fTup, fLst, hAdd, hSub, hInt2, hMulL, hLt, hLe, hGt, hGe, hNeg, hAbs, hLen, hInt1, hMax2, hMin2, hIx, fSl, oNone, oSome, hSl, fB, toB, fAnd, fOr, fNot, fAndV, fOrV, fNotV, fChain, kName, kTup, kCons, kNil, slOk, sStore, fMt, mtGo, hApp, hFdiv, hMod, hDivmod, outs, List.length_cons, List.length_nil, List.getElem?_cons_zero, List.getElem?_cons_succ, List.getElem?_nil, List.set_cons_zero, List.set_cons_succ, List.replicate_succ, List.replicate_zero, List.cons_append, List.nil_append, Option.bind_some, Option.map_some, cond_true, cond_false, ite_true, ite_false, Nat.reduceAdd, Nat.reduceSub, Nat.reduceEqDiff, Nat.reduceLeDiff, if_true, if_false, reduceIte, atI_n0, atI_n1, atI_n2, atI_n3, ixN_10, ixN_20, ixN_21, hEq_int, hNe_int, Bool.not_true, decide_true, decide_false, hTuple, sTryK, sRaise, Bool.false_eq_true, Bool.not_false, sz0, sz1, sz2, sz3, sz4, sz5, sz6, sz7, sz8, abs_nat, h1]
theorem lowest_eq {a b c : Int} (hc : 0 < c) (hb : Bt 9000 c) : d_p_lowest [.dat (.int a), .dat (.int b), .dat (.int c)] = some (.inr (false, lowD a b c), [.no, .no, .no]) := by
  have g0 : ((g3 a b c : Nat) : Int) ≠ 0 := by have := g3_pos (a := a) (b := b) hc; omega
  have e1 : ∀ x : Int, divOk x (g3 a b c : Nat) = true := fun x => divOk_of g0 (g3_bits hc hb)
  have e2 : decide (c < 0) = false := decide_eq_false (by omega)
  have e3 : Int.gcd ((Int.gcd a b : Nat) : Int) c = g3 a b c := rfl
  simp only [d_p_lowest, mkFn, sCons, sSet, sPar, sUnp, sIf, sRet, sRetN, sDrop, sNil, sBrk, sCnt, bndS, bnd, rt, opt, fVar, fVal, fBin, fUn, rd1, rd2, Rv.rd, Sl.rd, fD, fzM, Rv.fz, fCons, fNil, dCons, dNil, aCons, aNil, aBoxN, aBox, fCall, resolve, boxes, bxpos, wb, fNm, rdAll, fTup, fLst, hAdd, hSub, hInt2, hMulL, hLt, hLe, hGt, hGe, hNeg, hAbs, hLen, hInt1, hMax2, hMin2, hIx, fSl, oNone, oSome, hSl, fB, toB, fAnd, fOr, fNot, fAndV, fOrV, fNotV, fChain, kName, kTup, kCons, kNil, slOk, sStore, fMt, mtGo, hApp, hFdiv, hMod, hDivmod, outs, List.length_cons, List.length_nil, List.getElem?_cons_zero, List.getElem?_cons_succ, List.getElem?_nil, List.set_cons_zero, List.set_cons_succ, List.replicate_succ, List.replicate_zero, List.cons_append, List.nil_append, Option.bind_some, Option.map_some, cond_true, cond_false, ite_true, ite_false, Nat.reduceAdd, Nat.reduceSub, Nat.reduceEqDiff, Nat.reduceLeDiff, if_true, if_false, reduceIte, atI_n0, atI_n1, atI_n2, atI_n3, ixN_10, ixN_20, ixN_21, hEq_int, hNe_int, Bool.not_true, decide_true, decide_false, hTuple, sTryK, sRaise, Bool.false_eq_true, Bool.not_false, sz0, sz1, sz2, sz3, sz4, sz5, sz6, sz7, sz8, divisor_eq, e2, e3, e1, lowD]
theorem p_plus_eq {a b c d e f : Int} (r : D) (hc : 0 < c) (hf : 0 < f) (ba : Bt 4000 a) (bb : Bt 4000 b) (bc : Bt 4000 c) (bd : Bt 4000 d) (be : Bt 4000 e) (bf : Bt 4000 f) :
    d_p_plus [.dat r, .dat (tup3 a b c), .dat (tup3 d e f)] = some (.inr (false, lowD (a * f + d * c) (b * f + e * c) (c * f)), [.no, .no, .no]) := by
  have e0 := lowest_eq (a := a * f + d * c) (b := b * f + e * c) (c := c * f) (Int.mul_pos hc hf) ((bc.mul bf).mono (by decide))
  simp only [d_p_plus, mkFn, sCons, sSet, sPar, sUnp, sIf, sRet, sRetN, sDrop, sNil, sBrk, sCnt, bndS, bnd, rt, opt, fVar, fVal, fBin, fUn, rd1, rd2, Rv.rd, Sl.rd, fD, fzM, Rv.fz, fCons, fNil, dCons, dNil, aCons, aNil, aBoxN, aBox, fCall, resolve, boxes, bxpos, wb, fNm, rdAll, fTup, fLst, hAdd, hSub, hInt2, hMulL, hLt, hLe, hGt, hGe, hNeg, hAbs, hLen, hInt1, hMax2, hMin2, hIx, fSl, oNone, oSome, hSl, fB, toB, fAnd, fOr, fNot, fAndV, fOrV, fNotV, fChain, kName, kTup, kCons, kNil, slOk, sStore, fMt, mtGo, hApp, hFdiv, hMod, hDivmod, outs, List.length_cons, List.length_nil, List.getElem?_cons_zero, List.getElem?_cons_succ, List.getElem?_nil, List.set_cons_zero, List.set_cons_succ, List.replicate_succ, List.replicate_zero, List.cons_append, List.nil_append, Option.bind_some, Option.map_some, cond_true, cond_false, ite_true, ite_false, Nat.reduceAdd, Nat.reduceSub, Nat.reduceEqDiff, Nat.reduceLeDiff, if_true, if_false, reduceIte, atI_n0, atI_n1, atI_n2, atI_n3, ixN_10, ixN_20, ixN_21, hEq_int, hNe_int, Bool.not_true, decide_true, decide_false, hTuple, sTryK, sRaise, Bool.false_eq_true, Bool.not_false, sz0, sz1, sz2, sz3, sz4, sz5, sz6, sz7, sz8, ba.ok bf (by decide), bd.ok bc (by decide), bb.ok bf (by decide), be.ok bc (by decide), bc.ok bf (by decide), e0]
theorem g3_mul (a b c : Int) (k : Int) : g3 (a * k) (b * k) (c * k) = g3 a b c * k.natAbs := by
  unfold g3
  rw [Int.natAbs_mul, Int.natAbs_mul, Int.natAbs_mul, Nat.gcd_mul_right, Nat.gcd_mul_right]
theorem canon_dvd {a b c a' b' c' : Int} (g : g3 a b c = 1) (h : a * c' = a' * c) (h2 : b * c' = b' * c) : c.natAbs ∣ c'.natAbs := by
  have e := g3_mul a b c c'
  rw [g, Nat.one_mul] at e
  rw [← e]
  unfold g3
  refine Nat.dvd_gcd (Nat.dvd_gcd ?_ ?_) ?_
  · rw [h, Int.natAbs_mul]; exact Nat.dvd_mul_left _ _
  · rw [h2, Int.natAbs_mul]; exact Nat.dvd_mul_left _ _
  · rw [Int.natAbs_mul]; exact Nat.dvd_mul_right _ _
/-- numbers in lowest terms that are worth the same are the same -/
theorem canon {a b c a' b' c' : Int} (hc : 0 < c) (hc' : 0 < c') (g : g3 a b c = 1) (g' : g3 a' b' c' = 1) (h : a * c' = a' * c) (h2 : b * c' = b' * c) : a = a' ∧ b = b' ∧ c = c' := by
  have d1 := canon_dvd g h h2
  have d2 := canon_dvd g' h.symm h2.symm
  have e := Nat.dvd_antisymm d1 d2
  have ec : c = c' := by omega
  subst ec
  exact ⟨Int.eq_of_mul_eq_mul_right (by omega) h, Int.eq_of_mul_eq_mul_right (by omega) h2, rfl⟩
theorem low_eq {A B C a b c : Int} (hC : 0 < C) (hc : 0 < c) (g : g3 a b c = 1) (h : A * c = a * C) (h2 : B * c = b * C) : lowD A B C = tup3 a b c := by
  obtain ⟨q1, q2, q3⟩ := g3_dvd A B C
  have e1 := fdiv_exact q1
  have e2 := fdiv_exact q2
  have e3 := fdiv_exact q3
  have hp := g3_pos (a := A) (b := B) hC
  have hz := low_pos (a := A) (b := B) hC
  have hl := g3_low (a := A) (b := B) hC
  unfold lowD
  generalize A.fdiv (g3 A B C : Nat) = x at *
  generalize B.fdiv (g3 A B C : Nat) = y at *
  generalize C.fdiv (g3 A B C : Nat) = z at *
  generalize (g3 A B C : Nat) = k at *
  have k0 : (k : Int) ≠ 0 := by omega
  have a1 : x * c = a * z := by
    refine Int.eq_of_mul_eq_mul_right k0 ?_
    calc x * c * k = x * k * c := by rw [Int.mul_right_comm]
      _ = A * c := by rw [e1]
      _ = a * C := h
      _ = a * (z * k) := by rw [e3]
      _ = a * z * k := by rw [Int.mul_assoc]
  have a2 : y * c = b * z := by
    refine Int.eq_of_mul_eq_mul_right k0 ?_
    calc y * c * k = y * k * c := by rw [Int.mul_right_comm]
      _ = B * c := by rw [e2]
      _ = b * C := h2
      _ = b * (z * k) := by rw [e3]
      _ = b * z * k := by rw [Int.mul_assoc]
  obtain ⟨r1, r2, r3⟩ := canon hz hc hl g a1 a2
  rw [r1, r2, r3]
/-- x + y in lowest terms, its parts -/
structure SumOf (a b c d e f p q s : Int) : Prop where
  pos : 0 < s
  low : g3 p q s = 1
  h1 : p * (c * f) = (a * f + d * c) * s
  h2 : q * (c * f) = (b * f + e * c) * s
theorem sum_of (a b d e : Int) {c f : Int} (hc : 0 < c) (hf : 0 < f) : ∃ p q s : Int, lowD (a * f + d * c) (b * f + e * c) (c * f) = tup3 p q s ∧ SumOf a b c d e f p q s ∧ p.natAbs ≤ (a * f + d * c).natAbs ∧ q.natAbs ≤ (b * f + e * c).natAbs ∧ s.natAbs ≤ (c * f).natAbs := by
  have hC := Int.mul_pos hc hf
  obtain ⟨q1, q2, q3⟩ := g3_dvd (a * f + d * c) (b * f + e * c) (c * f)
  have e1 := fdiv_exact q1
  have e2 := fdiv_exact q2
  have e3 := fdiv_exact q3
  refine ⟨_, _, _, rfl, ⟨low_pos hC, g3_low hC, ?_, ?_⟩, abs_low _ _, abs_low _ _, abs_low _ _⟩
  · generalize (a * f + d * c).fdiv (g3 (a * f + d * c) (b * f + e * c) (c * f) : Nat) = x at *
    generalize (c * f).fdiv (g3 (a * f + d * c) (b * f + e * c) (c * f) : Nat) = z at *
    generalize ((g3 (a * f + d * c) (b * f + e * c) (c * f) : Nat) : Int) = k at *
    rw [← e3, ← e1]
    rw [Int.mul_comm z, ← Int.mul_assoc]
  · generalize (b * f + e * c).fdiv (g3 (a * f + d * c) (b * f + e * c) (c * f) : Nat) = y at *
    generalize (c * f).fdiv (g3 (a * f + d * c) (b * f + e * c) (c * f) : Nat) = z at *
    generalize ((g3 (a * f + d * c) (b * f + e * c) (c * f) : Nat) : Int) = k at *
    rw [← e3, ← e2]
    rw [Int.mul_comm z, ← Int.mul_assoc]
/-- (x + y) - y = x -/
theorem sum_less {a b c d e f p q s : Int} (hc : 0 < c) (hf : 0 < f) (g : g3 a b c = 1) (S : SumOf a b c d e f p q s) : lowD (p * f + (0 - d) * s) (q * f + (0 - e) * s) (s * f) = tup3 a b c := by
  obtain ⟨hs, _, h1, h2⟩ := S
  refine low_eq (Int.mul_pos hs hf) hc g ?_ ?_
  · have : p * (c * f) = a * f * s + d * c * s := by rw [h1, Int.add_mul]
    have k : (p * f + (0 - d) * s) * c = p * (c * f) - d * c * s := by
      rw [Int.zero_sub, Int.add_mul, Int.neg_mul, Int.neg_mul, Int.mul_assoc p f c, Int.mul_comm f c, Int.mul_right_comm d s c]
      rfl
    rw [k, this, Int.add_sub_cancel, Int.mul_assoc, Int.mul_comm f s]
  · have : q * (c * f) = b * f * s + e * c * s := by rw [h2, Int.add_mul]
    have k : (q * f + (0 - e) * s) * c = q * (c * f) - e * c * s := by
      rw [Int.zero_sub, Int.add_mul, Int.neg_mul, Int.neg_mul, Int.mul_assoc q f c, Int.mul_comm f c, Int.mul_right_comm e s c]
      rfl
    rw [k, this, Int.add_sub_cancel, Int.mul_assoc, Int.mul_comm f s]
/-- y - (x + y) = - x -/
theorem less_sum {a b c d e f p q s : Int} (hc : 0 < c) (hf : 0 < f) (g : g3 a b c = 1) (S : SumOf a b c d e f p q s) : lowD (d * s + (0 - p) * f) (e * s + (0 - q) * f) (f * s) = tup3 (-a) (-b) c := by
  obtain ⟨hs, _, h1, h2⟩ := S
  refine low_eq (Int.mul_pos hf hs) hc (by rw [g3_neg]; exact g) ?_ ?_
  · have : p * (c * f) = a * f * s + d * c * s := by rw [h1, Int.add_mul]
    have k : (d * s + (0 - p) * f) * c = d * c * s - p * (c * f) := by
      rw [Int.zero_sub, Int.add_mul, Int.neg_mul, Int.neg_mul, Int.mul_assoc p f c, Int.mul_comm f c, Int.mul_right_comm d s c]
      rfl
    have k2 : -a * (f * s) = -(a * f * s) := by rw [Int.neg_mul, Int.mul_assoc]
    rw [k, this, k2]
    omega
  · have : q * (c * f) = b * f * s + e * c * s := by rw [h2, Int.add_mul]
    have k : (e * s + (0 - q) * f) * c = e * c * s - q * (c * f) := by
      rw [Int.zero_sub, Int.add_mul, Int.neg_mul, Int.neg_mul, Int.mul_assoc q f c, Int.mul_comm f c, Int.mul_right_comm e s c]
      rfl
    have k2 : -b * (f * s) = -(b * f * s) := by rw [Int.neg_mul, Int.mul_assoc]
    rw [k, this, k2]
    omega
/-- the law's less, told by the difference in lowest terms -/
theorem less_by {r a b c d e f x y z : Int} (hc : 0 < c) (hf : 0 < f) (ba : Bt 900 a) (bb : Bt 900 b) (bc : Bt 900 c) (bd : Bt 900 d) (be : Bt 900 e) (bf : Bt 900 f) (br : Bt 60 r) (h : lowD (a * f + (0 - d) * c) (b * f + (0 - e) * c) (c * f) = tup3 x y z) :
    d_less [.dat (.int r), .dat (tup3 a b c), .dat (tup3 d e f)] = some (.inr (false, .bool (negV r x y)), [.no, .no, .no]) := by
  rw [less_eq hc hf ba bb bc bd be bf br]
  unfold lowD at h
  injection h with h
  injection h with h1 h
  injection h with h2 h
  injection h1 with h1
  injection h2 with h2
  rw [h1, h2]
/-- roots that are taken -/
def okRoot (r : Int) : Prop := r = 0 ∨ r = 2 ∨ r = 3 ∨ r = 5 ∨ r = 7
theorem no_square : ∀ a : Fin 10, ∀ b : Fin 10, ∀ r : Fin 4, a.val * a.val = b.val * b.val * [2, 3, 5, 7][r.val] → a.val = 0 ∧ b.val = 0 := by decide +kernel
theorem root_apart {r a b : Int} (hr : okRoot r) (ha : a.natAbs ≤ 9) (hb : b.natAbs ≤ 9) (h0 : r = 0 → b = 0) (h : a * a = b * b * r) : a = 0 ∧ b = 0 := by
  by_cases hr0 : r = 0
  · have hb0 := h0 hr0
    subst hb0
    refine ⟨?_, rfl⟩
    have : a * a = 0 := by rw [h, hr0, Int.mul_zero]
    rcases Int.mul_eq_zero.mp this with h | h <;> exact h
  · obtain ⟨k, hk⟩ : ∃ k : Fin 4, r = ([2, 3, 5, 7][k.val] : Nat) := by
      rcases hr with h | h | h | h | h
      · exact absurd h hr0
      · exact ⟨0, h⟩
      · exact ⟨1, h⟩
      · exact ⟨2, h⟩
      · exact ⟨3, h⟩
    have e : a.natAbs * a.natAbs = b.natAbs * b.natAbs * [2, 3, 5, 7][k.val] := by
      have := congrArg Int.natAbs h
      rw [Int.natAbs_mul, Int.natAbs_mul, Int.natAbs_mul, hk, Int.natAbs_natCast] at this
      exact this
    have := no_square ⟨a.natAbs, by omega⟩ ⟨b.natAbs, by omega⟩ k e
    dsimp only at this
    omega
/-- what is above nought, turned about, is below -/
theorem negV_turn {r a b : Int} (hr : okRoot r) (ha : a.natAbs ≤ 9) (hb : b.natAbs ≤ 9) (h0 : r = 0 → b = 0) (hn : a ≠ 0 ∨ b ≠ 0) (h : negV r a b = false) : negV r (-a) (-b) = true := by
  unfold negV at h ⊢
  by_cases h1 : 0 ≤ a ∧ 0 ≤ b
  · rw [if_neg (by omega), if_pos (by omega)]
  · rw [if_neg h1] at h
    by_cases h2 : a ≤ 0 ∧ b ≤ 0
    · rw [if_pos h2] at h; cases h
    · rw [if_neg h2] at h
      rw [if_neg (by omega), if_neg (by omega)]
      have s1 : -a * -a = a * a := Int.neg_mul_neg a a
      have s2 : -b * -b = b * b := Int.neg_mul_neg b b
      rw [s1, s2]
      have hne : a * a ≠ b * b * r := fun e => by
        have := root_apart hr ha hb h0 e
        omega
      by_cases h3 : a < 0
      · rw [if_pos h3] at h
        rw [if_neg (by omega)]
        have := of_decide_eq_false h
        exact decide_eq_true (by omega)
      · rw [if_neg h3] at h
        rw [if_pos (by omega)]
        have := of_decide_eq_false h
        exact decide_eq_true (by omega)
/-! ### places in lists -/
theorem idx_at : ∀ {L : List Int} {j : Nat} {x : Int}, L.Nodup → L[j]? = some x → idxD (.int x) (L.map PyData.int) = some j
  | [], _, _, _, h => by simp at h
  | y :: L, 0, x, _, h => by
    have e : y = x := by simpa using h
    subst e
    simp [idxD, PyData.eqv]
  | y :: L, j + 1, x, hn, h => by
    rw [List.nodup_cons] at hn
    have hm : L[j]? = some x := by simpa using h
    have ne : y ≠ x := fun e => hn.1 (by rw [e]; exact List.mem_of_getElem? hm)
    have ih := idx_at hn.2 hm
    have e1 : PyData.eqv (.int y) (.int x) = false := by simp [PyData.eqv, ne]
    rw [List.map_cons]
    simp only [idxD, e1, cond_false, ih, Option.map_some]
theorem sh_tints (l : List Int) : SeqAt.shaped (.tuple (l.map PyData.int)) = true := shaped_by 1 (by simp only [noB]; exact noBs_ints l) (by simp only [dpth]; exact dpths_ints 0 l) (by decide)
theorem hIndexL_at {L : List Int} {j : Nat} {x : Int} (hn : L.Nodup) (h : L[j]? = some x) : hIndex true (.list (L.map PyData.int)) (.int x) = some (.val (.int (j : Nat))) := by
  simp only [hIndex, sh_ints, shaped_int, Bool.and_self, cond_true, idx_at hn h, Option.map_some]
theorem hIndexT_at {L : List Int} {j : Nat} {x : Int} (hn : L.Nodup) (h : L[j]? = some x) : hIndex false (.tuple (L.map PyData.int)) (.int x) = some (.val (.int (j : Nat))) := by
  simp only [hIndex, sh_tints, shaped_int, Bool.not_false, Bool.and_self, cond_true, idx_at hn h, Option.map_some]
/-- x.index(y) of a list or a tuple of ints -/
theorem fIndex_list {f g : M Rv} {fs fs1 fs2 : Fs} {x y : Rv} {L : List Int} {j : Nat} {z : Int} (h1 : f fs = some (.inr x, fs1)) (hx : x.rd fs1 = some (.list (L.map PyData.int))) (h2 : g fs1 = some (.inr y, fs2)) (hx2 : x.rd fs2 = some (.list (L.map PyData.int))) (hy : y.rd fs2 = some (.int z)) (hn : L.Nodup) (h : L[j]? = some z) :
    fIndex f g fs = some (.inr (.val (.int (j : Nat))), fs2) := by
  have : fIndexL f g fs = some (.inr (.val (.int (j : Nat))), fs2) := by
    simp only [fIndexL, bnd, h1, isL, hx, h2, rd2, hx2, hy, hIndexL_at hn h]
  simp only [fIndex, this]
theorem fIndex_tup {f g : M Rv} {fs fs1 fs2 : Fs} {x y : Rv} {L : List Int} {j : Nat} {z : Int} (h1 : f fs = some (.inr x, fs1)) (hx : x.rd fs1 = some (.tuple (L.map PyData.int))) (h2 : g fs1 = some (.inr y, fs2)) (hx2 : x.rd fs2 = some (.tuple (L.map PyData.int))) (hy : y.rd fs2 = some (.int z)) (hn : L.Nodup) (h : L[j]? = some z) :
    fIndex f g fs = some (.inr (.val (.int (j : Nat))), fs2) := by
  have e1 : fIndexL f g fs = none := by
    simp only [fIndexL, bnd, h1, isL, hx]
  have : fIndexT f g fs = some (.inr (.val (.int (j : Nat))), fs2) := by
    simp only [fIndexT, bnd, h1, isT, hx, h2, rd2, hx2, hy, hIndexT_at hn h]
  simp only [fIndex, e1, this]
def getD0 (xs : List D) : D → D
  | .int i => (atI xs i).getD .none
  | _ => .none
def posD (L : List Int) : D → D
  | .int x => .int ((L.idxOf x : Nat) : Int)
  | d => d
theorem idxOf_at {L : List Int} {j : Nat} {x : Int} (hn : L.Nodup) (h : L[j]? = some x) : L.idxOf x = j := by
  induction L generalizing j with
  | nil => simp at h
  | cons y L ih =>
    rw [List.nodup_cons] at hn
    cases j with
    | zero =>
      have e : y = x := by simpa using h
      subst e
      simp [List.idxOf_cons]
    | succ j =>
      have hm : L[j]? = some x := by simpa using h
      have ne : y ≠ x := fun e => hn.1 (by rw [e]; exact List.mem_of_getElem? hm)
      rw [List.idxOf_cons, ih hn.2 hm]
      have : (y == x) = false := by simpa using ne
      rw [this]
      rfl
theorem getElem_idxOf {L : List Int} {x : Int} (h : x ∈ L) : L[L.idxOf x]? = some x := by
  have hl := List.idxOf_lt_length_iff.mpr h
  rw [List.getElem?_eq_getElem hl, List.getElem_idxOf hl]
/-! ### numbers from 0 on, last ones -/
theorem upto_get {n i : Nat} (h : i < n) : (upto n)[i]? = some (i : Int) := by
  unfold upto
  rw [List.getElem?_map, List.getElem?_range h]
  rfl
theorem all_upto {n : Nat} {xs : List D} (h : xs.length = n) : ((upto n).map PyData.int).map (getD0 xs) = xs := by
  apply List.ext_getElem?
  intro i
  rw [List.getElem?_map, List.getElem?_map]
  by_cases hi : i < n
  · rw [upto_get hi]
    show some ((atI xs (i : Nat)).getD .none) = xs[i]?
    rw [atI_natE, List.getElem?_eq_getElem (by omega)]
    rfl
  · rw [List.getElem?_eq_none (by rw [upto_length]; omega), List.getElem?_eq_none (by omega)]
    rfl
theorem pos_upto {n : Nat} {l : List Int} (h : ∀ x ∈ l, x ∈ upto n) : (l.map PyData.int).map (posD (upto n)) = l.map PyData.int := by
  rw [List.map_map]
  refine List.map_congr_left fun x hx => ?_
  have hm := upto_mem.mp (h x hx)
  have e : (upto n)[x.toNat]? = some x := by rw [upto_get (by omega)]; congr 1; omega
  show PyData.int (((upto n).idxOf x : Nat) : Int) = .int x
  rw [idxOf_at (upto_nodup n) e]
  congr 1
  omega
theorem atI_last {α : Type} {xs : List α} {x : α} (h : xs.getLast? = some x) : atI xs (-1) = some x := by
  rw [List.getLast?_eq_getElem?] at h
  have hl := (List.getElem?_eq_some_iff.mp h).1
  unfold atI ixN
  rw [if_neg (by omega), if_pos (by omega)]
  show xs[(-1 + (xs.length : Int)).toNat]? = some x
  rw [show (-1 + (xs.length : Int)).toNat = xs.length - 1 by omega]
  exact h
theorem last_map {l : List Int} {x : Int} (h : l.getLast? = some x) : (l.map PyData.int).getLast? = some (.int x) := by rw [List.getLast?_map, h]; rfl
theorem isi_ok (i : Int) : hIsi "int" (.int i) = some (.val (.bool true)) ∧ hIsi "bool" (.int i) = some (.val (.bool false)) := by
  have e1 : kitB "int" "int" = some true := by decide +kernel
  have e2 : kitB "int" "bool" = some false := by decide +kernel
  constructor
  · show (bif true then (kitB "int" "int").map _ else none) = _
    rw [e1]; rfl
  · show (bif true then (kitB "int" "bool").map _ else none) = _
    rw [e2]; rfl
theorem in01 (i : Int) : hIn true (.int i) (.tuple [.int 0, .int 1]) = some (.val (.bool (!(decide (i = 0) || decide (i = 1))))) := by
  have : ∀ a b : Int, PyData.eqv (.int a) (.int b) = decide (a = b) := fun a b => by simp only [PyData.eqv]; rfl
  simp only [hIn, flatD, List.all_cons, List.all_nil, Bool.and_self, cond_true, List.any_cons, List.any_nil, this, Bool.or_false]
  have e1 : decide ((0 : Int) = i) = decide (i = 0) := by by_cases h : i = 0 <;> simp [h, eq_comm]
  have e2 : decide ((1 : Int) = i) = decide (i = 1) := by by_cases h : i = 1 <;> simp [h, eq_comm]
  rw [e1, e2]
  cases (decide (i = 0) || decide (i = 1)) <;> rfl
def neD (z : Int) : D → Bool
  | .int x => !decide (x = z)
  | _ => false
theorem fltI (l : List Int) (z : Int) : ((l.map PyData.int).filter (neD z)).map id = (l.filter fun x => !decide (x = z)).map PyData.int := filter_ints _ _ l fun x _ => rfl
theorem set_len {xs : List D} {i : Nat} {d : D} : (xs.set i d).length = xs.length := List.length_set
theorem split_filter {A B : List Int} {z : Int} (hn : (A ++ z :: B).Nodup) : (A ++ z :: B).filter (fun x => !decide (x = z)) = A ++ B := by
  rw [List.nodup_append] at hn
  obtain ⟨h1, h2, h3⟩ := hn
  rw [List.nodup_cons] at h2
  rw [List.filter_append, List.filter_cons_of_neg (by simp), List.filter_eq_self.mpr, List.filter_eq_self.mpr]
  · intro x hx
    have : x ≠ z := fun e => h2.1 (e ▸ hx)
    simpa using this
  · intro x hx
    have : x ≠ z := h3 x hx z List.mem_cons_self
    simpa using this
theorem isi_tup (ds : List D) : hIsi "tuple" (.tuple ds) = some (.val (.bool true)) := by
  have : kitB "tuple" "tuple" = some true := by decide +kernel
  show (bif true then (kitB "tuple" "tuple").map _ else none) = _
  rw [this]; rfl
theorem pw39 : hPow (.int 10) (.int 39) = some (.val (.int 1000000000000000000000000000000000000000)) := by
  have h1 : powOk 10 39 = true := by decide +kernel
  have h2 : (10 : Int) ^ ((39 : Int).toNat) = 1000000000000000000000000000000000000000 := by decide +kernel
  simp only [hPow, hInt2, h1, cond_true, h2]
/-! ### numbering anew -/
/-- (root, the longs by row, the order by row's places) -/
theorem named_eq (r : Int) (new : List D) (order row : List Int) (S : D) (hS : S = .list (order.map PyData.int) ∨ S = .tuple (order.map PyData.int)) (hr : ∀ x ∈ row, ∃ d, atI new x = some d) (hn : row.Nodup) (ho : ∀ x ∈ order, x ∈ row) (h1 : row.length ≤ 900) (h2 : order.length ≤ 900) :
    d_p_named_anew [.dat (.int r), .dat (.list new), .dat S, .dat (.list (row.map PyData.int))] = some (.inr (false, .tuple [.int r, .tuple ((row.map PyData.int).map (getD0 new)), .tuple ((order.map PyData.int).map (posD row))]), [.no, .no, .no, .no]) := by
  have er : fiS (fD (fVar 3)) [.dat (.int r), .dat (.list new), .dat S, .dat (.list (row.map PyData.int)), .no] = some (.inr (row.map PyData.int), [.dat (.int r), .dat (.list new), .dat S, .dat (.list (row.map PyData.int)), .no]) := by simp only [fiS, asS, mkFn, sCons, sSet, sPar, sUnp, sIf, sRet, sRetN, sDrop, sNil, sBrk, sCnt, bndS, bnd, rt, opt, fVar, fVal, fBin, fUn, rd1, rd2, Rv.rd, Sl.rd, fD, fzM, Rv.fz, fCons, fNil, dCons, dNil, aCons, aNil, aBoxN, aBox, fCall, resolve, boxes, bxpos, wb, fNm, rdAll, fTup, fLst, hAdd, hSub, hInt2, hMulL, hLt, hLe, hGt, hGe, hNeg, hAbs, hLen, hInt1, hMax2, hMin2, hIx, fSl, oNone, oSome, hSl, fB, toB, fAnd, fOr, fNot, fAndV, fOrV, fNotV, fChain, kName, kTup, kCons, kNil, slOk, sStore, fMt, mtGo, hApp, hFdiv, hMod, hDivmod, outs, List.length_cons, List.length_nil, List.getElem?_cons_zero, List.getElem?_cons_succ, List.getElem?_nil, List.set_cons_zero, List.set_cons_succ, List.replicate_succ, List.replicate_zero, List.cons_append, List.nil_append, Option.bind_some, Option.map_some, cond_true, cond_false, ite_true, ite_false, Nat.reduceAdd, Nat.reduceSub, Nat.reduceEqDiff, Nat.reduceLeDiff, if_true, if_false, reduceIte, atI_n0, atI_n1, atI_n2, atI_n3, ixN_10, ixN_20, ixN_21, hEq_int, hNe_int, Bool.not_true, decide_true, decide_false, hTuple, sTryK, sRaise, Bool.false_eq_true, Bool.not_false, sz0, sz1, sz2, sz3, sz4, sz5, sz6, sz7, sz8]
  have el := lcL_map (vs := [4]) (g := kName 4) (fe := fBin hIx (fVar 1) (fVar 4)) (getD0 new) [.dat (.int r), .dat (.list new), .dat S, .dat (.list (row.map PyData.int)), .no] (row.map PyData.int) [] (len900 row h1) (by
    intro d hd
    obtain ⟨x, hx, rfl⟩ := List.mem_map.mp hd
    obtain ⟨v, hv⟩ := hr x hx
    refine ⟨_, rfl, [.dat (.int r), .dat (.list new), .dat S, .dat (.list (row.map PyData.int)), .dat (.int x)], ?_, rfl⟩
    simp only [mkFn, sCons, sSet, sPar, sUnp, sIf, sRet, sRetN, sDrop, sNil, sBrk, sCnt, bndS, bnd, rt, opt, fVar, fVal, fBin, fUn, rd1, rd2, Rv.rd, Sl.rd, fD, fzM, Rv.fz, fCons, fNil, dCons, dNil, aCons, aNil, aBoxN, aBox, fCall, resolve, boxes, bxpos, wb, fNm, rdAll, fTup, fLst, hAdd, hSub, hInt2, hMulL, hLt, hLe, hGt, hGe, hNeg, hAbs, hLen, hInt1, hMax2, hMin2, hIx, fSl, oNone, oSome, hSl, fB, toB, fAnd, fOr, fNot, fAndV, fOrV, fNotV, fChain, kName, kTup, kCons, kNil, slOk, sStore, fMt, mtGo, hApp, hFdiv, hMod, hDivmod, outs, List.length_cons, List.length_nil, List.getElem?_cons_zero, List.getElem?_cons_succ, List.getElem?_nil, List.set_cons_zero, List.set_cons_succ, List.replicate_succ, List.replicate_zero, List.cons_append, List.nil_append, Option.bind_some, Option.map_some, cond_true, cond_false, ite_true, ite_false, Nat.reduceAdd, Nat.reduceSub, Nat.reduceEqDiff, Nat.reduceLeDiff, if_true, if_false, reduceIte, atI_n0, atI_n1, atI_n2, atI_n3, ixN_10, ixN_20, ixN_21, hEq_int, hNe_int, Bool.not_true, decide_true, decide_false, hTuple, sTryK, sRaise, Bool.false_eq_true, Bool.not_false, sz0, sz1, sz2, sz3, sz4, sz5, sz6, sz7, sz8, hv, getD0, Option.getD_some])
  rw [List.nil_append] at el
  have er2 : fiS (fD (fVar 2)) [.dat (.int r), .dat (.list new), .dat S, .dat (.list (row.map PyData.int)), .no] = some (.inr (order.map PyData.int), [.dat (.int r), .dat (.list new), .dat S, .dat (.list (row.map PyData.int)), .no]) := by
    rcases hS with rfl | rfl <;> simp only [fiS, asS, mkFn, sCons, sSet, sPar, sUnp, sIf, sRet, sRetN, sDrop, sNil, sBrk, sCnt, bndS, bnd, rt, opt, fVar, fVal, fBin, fUn, rd1, rd2, Rv.rd, Sl.rd, fD, fzM, Rv.fz, fCons, fNil, dCons, dNil, aCons, aNil, aBoxN, aBox, fCall, resolve, boxes, bxpos, wb, fNm, rdAll, fTup, fLst, hAdd, hSub, hInt2, hMulL, hLt, hLe, hGt, hGe, hNeg, hAbs, hLen, hInt1, hMax2, hMin2, hIx, fSl, oNone, oSome, hSl, fB, toB, fAnd, fOr, fNot, fAndV, fOrV, fNotV, fChain, kName, kTup, kCons, kNil, slOk, sStore, fMt, mtGo, hApp, hFdiv, hMod, hDivmod, outs, List.length_cons, List.length_nil, List.getElem?_cons_zero, List.getElem?_cons_succ, List.getElem?_nil, List.set_cons_zero, List.set_cons_succ, List.replicate_succ, List.replicate_zero, List.cons_append, List.nil_append, Option.bind_some, Option.map_some, cond_true, cond_false, ite_true, ite_false, Nat.reduceAdd, Nat.reduceSub, Nat.reduceEqDiff, Nat.reduceLeDiff, if_true, if_false, reduceIte, atI_n0, atI_n1, atI_n2, atI_n3, ixN_10, ixN_20, ixN_21, hEq_int, hNe_int, Bool.not_true, decide_true, decide_false, hTuple, sTryK, sRaise, Bool.false_eq_true, Bool.not_false, sz0, sz1, sz2, sz3, sz4, sz5, sz6, sz7, sz8]
  have el2 := lcL_map (vs := [4]) (g := kName 4) (fe := fIndex (fVar 3) (fVar 4)) (posD row) [.dat (.int r), .dat (.list new), .dat S, .dat (.list (row.map PyData.int)), .no] (order.map PyData.int) [] (len900 order h2) (by
    intro d hd
    obtain ⟨x, hx, rfl⟩ := List.mem_map.mp hd
    refine ⟨[.dat (.int r), .dat (.list new), .dat S, .dat (.list (row.map PyData.int)), .dat (.int x)], rfl, [.dat (.int r), .dat (.list new), .dat S, .dat (.list (row.map PyData.int)), .dat (.int x)], ?_, rfl⟩
    have := fIndex_list (f := fVar 3) (g := fVar 4) (fs := [.dat (.int r), .dat (.list new), .dat S, .dat (.list (row.map PyData.int)), .dat (.int x)]) (x := .val (.list (row.map PyData.int))) (y := .val (.int x)) rfl rfl rfl rfl rfl hn (getElem_idxOf (ho x hx))
    unfold fD
    rw [bnd_inr this]
    rfl)
  rw [List.nil_append] at el2
  have e1 := fLc_of er el
  have e2 := fLc_of er2 el2
  unfold d_p_named_anew
  refine mkFn_ret rfl ?_ (fs := [.dat (.int r), .dat (.list new), .dat S, .dat (.list (row.map PyData.int)), .no])
  show sRet _ [.dat (.int r), .dat (.list new), .dat S, .dat (.list (row.map PyData.int)), .no] = _
  generalize fLc [4] (fiS (fD (fVar 3))) (kName 4) tYesF (fBin hIx (fVar 1) (fVar 4)) = E1 at e1 ⊢
  generalize fLc [4] (fiS (fD (fVar 2))) (kName 4) tYesF (fIndex (fVar 3) (fVar 4)) = E2 at e2 ⊢
  simp only [mkFn, sCons, sSet, sPar, sUnp, sIf, sRet, sRetN, sDrop, sNil, sBrk, sCnt, bndS, bnd, rt, opt, fVar, fVal, fBin, fUn, rd1, rd2, Rv.rd, Sl.rd, fD, fzM, Rv.fz, fCons, fNil, dCons, dNil, aCons, aNil, aBoxN, aBox, fCall, resolve, boxes, bxpos, wb, fNm, rdAll, fTup, fLst, hAdd, hSub, hInt2, hMulL, hLt, hLe, hGt, hGe, hNeg, hAbs, hLen, hInt1, hMax2, hMin2, hIx, fSl, oNone, oSome, hSl, fB, toB, fAnd, fOr, fNot, fAndV, fOrV, fNotV, fChain, kName, kTup, kCons, kNil, slOk, sStore, fMt, mtGo, hApp, hFdiv, hMod, hDivmod, outs, List.length_cons, List.length_nil, List.getElem?_cons_zero, List.getElem?_cons_succ, List.getElem?_nil, List.set_cons_zero, List.set_cons_succ, List.replicate_succ, List.replicate_zero, List.cons_append, List.nil_append, Option.bind_some, Option.map_some, cond_true, cond_false, ite_true, ite_false, Nat.reduceAdd, Nat.reduceSub, Nat.reduceEqDiff, Nat.reduceLeDiff, if_true, if_false, reduceIte, atI_n0, atI_n1, atI_n2, atI_n3, ixN_10, ixN_20, ixN_21, hEq_int, hNe_int, Bool.not_true, decide_true, decide_false, hTuple, sTryK, sRaise, Bool.false_eq_true, Bool.not_false, sz0, sz1, sz2, sz3, sz4, sz5, sz6, sz7, sz8, e1, e2]
/-! ### numbers over six -/
abbrev nm (A B : Int) : D := lowD A B 6
structure NmOf (A B a b c : Int) : Prop where
  pos : 0 < c
  low : g3 a b c = 1
  h1 : a * 6 = A * c
  h2 : b * 6 = B * c
  le : c.natAbs ≤ 6
  la : a.natAbs ≤ A.natAbs
  lb : b.natAbs ≤ B.natAbs
theorem nm_ex (A B : Int) : ∃ a b c : Int, nm A B = tup3 a b c ∧ NmOf A B a b c := by
  obtain ⟨q1, q2, q3⟩ := g3_dvd A B 6
  have e1 := fdiv_exact q1
  have e2 := fdiv_exact q2
  have e3 := fdiv_exact q3
  have hC : (0 : Int) < 6 := by decide
  refine ⟨_, _, _, rfl, low_pos hC, g3_low hC, ?_, ?_, abs_low 6 _, abs_low _ _, abs_low _ _⟩
  · generalize A.fdiv (g3 A B 6 : Nat) = x at *
    generalize (6 : Int).fdiv (g3 A B 6 : Nat) = z at *
    generalize ((g3 A B 6 : Nat) : Int) = k at *
    rw [← e1]
    conv => lhs; rw [← e3]
    rw [Int.mul_comm z, ← Int.mul_assoc]
  · generalize B.fdiv (g3 A B 6 : Nat) = x at *
    generalize (6 : Int).fdiv (g3 A B 6 : Nat) = z at *
    generalize ((g3 A B 6 : Nat) : Int) = k at *
    rw [← e2]
    conv => lhs; rw [← e3]
    rw [Int.mul_comm z, ← Int.mul_assoc]
theorem nm_of {A B a b c : Int} (hc : 0 < c) (g : g3 a b c = 1) (h1 : a * 6 = A * c) (h2 : b * 6 = B * c) : nm A B = tup3 a b c := low_eq (by decide) hc g h1.symm h2.symm
theorem tup3_inj {a b c d e f : Int} (h : tup3 a b c = tup3 d e f) : a = d ∧ b = e ∧ c = f := by
  injection h with h
  injection h with h1 h
  injection h with h2 h
  injection h with h3 h
  injection h1 with h1
  injection h2 with h2
  injection h3 with h3
  exact ⟨h1, h2, h3⟩
theorem nm_inj {A B A' B' : Int} (h : nm A B = nm A' B') : A = A' ∧ B = B' := by
  obtain ⟨a, b, c, e, n⟩ := nm_ex A B
  obtain ⟨a', b', c', e', n'⟩ := nm_ex A' B'
  rw [e, e'] at h
  obtain ⟨rfl, rfl, rfl⟩ := tup3_inj h
  have hp := n.pos
  exact ⟨Int.eq_of_mul_eq_mul_right (by omega) (n.h1.symm.trans n'.h1), Int.eq_of_mul_eq_mul_right (by omega) (n.h2.symm.trans n'.h2)⟩
theorem NmOf.ba {A B a b c : Int} {k : Nat} (n : NmOf A B a b c) (h : Bt k A) : Bt k a := PySem.intBits_le_of_natAbs n.la h
theorem NmOf.bb {A B a b c : Int} {k : Nat} (n : NmOf A B a b c) (h : Bt k B) : Bt k b := PySem.intBits_le_of_natAbs n.lb h
theorem NmOf.bc {A B a b c : Int} (n : NmOf A B a b c) : Bt 60 c := bits_le (by have := n.le; omega)
theorem add6 {A A' a c d f p s : Int} (h1 : a * 6 = A * c) (h2 : d * 6 = A' * f) (h3 : p * 6 = (A + A') * s) : (a * f + d * c) * s = p * (c * f) := by
  refine Int.eq_of_mul_eq_mul_right (show (6 : Int) ≠ 0 by decide) ?_
  have e1 : (a * f + d * c) * s * 6 = (a * 6) * f * s + (d * 6) * c * s := by grind
  have e2 : p * (c * f) * 6 = (p * 6) * (c * f) := by grind
  rw [e1, e2, h1, h2, h3]
  grind
theorem sub6 {A A' a c d f p s : Int} (h1 : a * 6 = A * c) (h2 : d * 6 = A' * f) (h3 : p * 6 = (A - A') * s) : (a * f + (0 - d) * c) * s = p * (c * f) := by
  refine Int.eq_of_mul_eq_mul_right (show (6 : Int) ≠ 0 by decide) ?_
  have e1 : (a * f + (0 - d) * c) * s * 6 = (a * 6) * f * s - (d * 6) * c * s := by grind
  have e2 : p * (c * f) * 6 = (p * 6) * (c * f) := by grind
  rw [e1, e2, h1, h2, h3]
  grind
theorem low_add {A B A' B' a b c d e f : Int} (n : NmOf A B a b c) (n' : NmOf A' B' d e f) : lowD (a * f + d * c) (b * f + e * c) (c * f) = nm (A + A') (B + B') := by
  obtain ⟨p, q, s, e0, m⟩ := nm_ex (A + A') (B + B')
  rw [e0]
  exact low_eq (Int.mul_pos n.pos n'.pos) m.pos m.low (add6 n.h1 n'.h1 m.h1) (add6 n.h2 n'.h2 m.h2)
theorem low_sub {A B A' B' a b c d e f : Int} (n : NmOf A B a b c) (n' : NmOf A' B' d e f) : lowD (a * f + (0 - d) * c) (b * f + (0 - e) * c) (c * f) = nm (A - A') (B - B') := by
  obtain ⟨p, q, s, e0, m⟩ := nm_ex (A - A') (B - B')
  rw [e0]
  exact low_eq (Int.mul_pos n.pos n'.pos) m.pos m.low (sub6 n.h1 n'.h1 m.h1) (sub6 n.h2 n'.h2 m.h2)
theorem nm_plus {A B A' B' : Int} (r : D) (hA : Bt 800 A) (hB : Bt 800 B) (hA' : Bt 800 A') (hB' : Bt 800 B') : d_p_plus [.dat r, .dat (nm A B), .dat (nm A' B')] = some (.inr (false, nm (A + A') (B + B')), [.no, .no, .no]) := by
  obtain ⟨a, b, c, e1, n⟩ := nm_ex A B
  obtain ⟨d, e, f, e2, n'⟩ := nm_ex A' B'
  rw [e1, e2, p_plus_eq r n.pos n'.pos ((n.ba hA).mono (by decide)) ((n.bb hB).mono (by decide)) (n.bc.mono (by decide)) ((n'.ba hA').mono (by decide)) ((n'.bb hB').mono (by decide)) (n'.bc.mono (by decide)), low_add n n']
theorem nm_minus {A B A' B' : Int} (hA : Bt 800 A) (hB : Bt 800 B) (hA' : Bt 800 A') (hB' : Bt 800 B') : d_minus [.dat (nm A B), .dat (nm A' B')] = some (.inr (false, nm (A - A') (B - B')), [.no, .no]) := by
  obtain ⟨a, b, c, e1, n⟩ := nm_ex A B
  obtain ⟨d, e, f, e2, n'⟩ := nm_ex A' B'
  rw [e1, e2, minus_eq n.pos n'.pos ((n.ba hA).mono (by decide)) ((n.bb hB).mono (by decide)) (n.bc.mono (by decide)) ((n'.ba hA').mono (by decide)) ((n'.bb hB').mono (by decide)) (n'.bc.mono (by decide)), low_sub n n']
theorem p_minus_eq {a b c d e f : Int} (r : D) (hc : 0 < c) (hf : 0 < f) (ba : Bt 4000 a) (bb : Bt 4000 b) (bc : Bt 4000 c) (bd : Bt 3998 d) (be : Bt 3998 e) (bf : Bt 4000 f) :
    d_p_minus [.dat r, .dat (tup3 a b c), .dat (tup3 d e f)] = some (.inr (false, lowD (a * f + (0 - d) * c) (b * f + (0 - e) * c) (c * f)), [.no, .no, .no]) := by
  have z : Bt 1 (0 : Int) := by decide
  have e0 := p_plus_eq (a := a) (b := b) (c := c) (d := 0 - d) (e := 0 - e) (f := f) r hc hf ba bb bc ((z.sub bd).mono (by decide)) ((z.sub be).mono (by decide)) bf
  simp only [d_p_minus, mkFn, sCons, sSet, sPar, sUnp, sIf, sRet, sRetN, sDrop, sNil, sBrk, sCnt, bndS, bnd, rt, opt, fVar, fVal, fBin, fUn, rd1, rd2, Rv.rd, Sl.rd, fD, fzM, Rv.fz, fCons, fNil, dCons, dNil, aCons, aNil, aBoxN, aBox, fCall, resolve, boxes, bxpos, wb, fNm, rdAll, fTup, fLst, hAdd, hSub, hInt2, hMulL, hLt, hLe, hGt, hGe, hNeg, hAbs, hLen, hInt1, hMax2, hMin2, hIx, fSl, oNone, oSome, hSl, fB, toB, fAnd, fOr, fNot, fAndV, fOrV, fNotV, fChain, kName, kTup, kCons, kNil, slOk, sStore, fMt, mtGo, hApp, hFdiv, hMod, hDivmod, outs, List.length_cons, List.length_nil, List.getElem?_cons_zero, List.getElem?_cons_succ, List.getElem?_nil, List.set_cons_zero, List.set_cons_succ, List.replicate_succ, List.replicate_zero, List.cons_append, List.nil_append, Option.bind_some, Option.map_some, cond_true, cond_false, ite_true, ite_false, Nat.reduceAdd, Nat.reduceSub, Nat.reduceEqDiff, Nat.reduceLeDiff, if_true, if_false, reduceIte, atI_n0, atI_n1, atI_n2, atI_n3, ixN_10, ixN_20, ixN_21, hEq_int, hNe_int, Bool.not_true, decide_true, decide_false, hTuple, sTryK, sRaise, Bool.false_eq_true, Bool.not_false, sz0, sz1, sz2, sz3, sz4, sz5, sz6, sz7, sz8, e0]
theorem nm_pminus {A B A' B' : Int} (r : D) (hA : Bt 800 A) (hB : Bt 800 B) (hA' : Bt 800 A') (hB' : Bt 800 B') : d_p_minus [.dat r, .dat (nm A B), .dat (nm A' B')] = some (.inr (false, nm (A - A') (B - B')), [.no, .no, .no]) := by
  obtain ⟨a, b, c, e1, n⟩ := nm_ex A B
  obtain ⟨d, e, f, e2, n'⟩ := nm_ex A' B'
  rw [e1, e2, p_minus_eq r n.pos n'.pos ((n.ba hA).mono (by decide)) ((n.bb hB).mono (by decide)) (n.bc.mono (by decide)) ((n'.ba hA').mono (by decide)) ((n'.bb hB').mono (by decide)) (n'.bc.mono (by decide)), low_sub n n']
/-! ### above and below nought -/
theorem sq_scale {x X z y Y r : Int} (hz : 0 < z) (h1 : x * 6 = X * z) (h2 : y * 6 = Y * z) : (y * y * r < x * x ↔ Y * Y * r < X * X) ∧ (x * x < y * y * r ↔ X * X < Y * Y * r) := by
  have hzz : 0 < z * z := Int.mul_pos hz hz
  have e1 : x * x * 36 = X * X * (z * z) := by
    have : x * x * 36 = (x * 6) * (x * 6) := by grind
    rw [this, h1]; grind
  have e2 : y * y * r * 36 = Y * Y * r * (z * z) := by
    have : y * y * r * 36 = (y * 6) * (y * 6) * r := by grind
    rw [this, h2]; grind
  have k : ∀ p q : Int, p * (z * z) < q * (z * z) ↔ p < q := fun p q => ⟨fun h => Int.lt_of_mul_lt_mul_right h (Int.le_of_lt hzz), fun h => Int.mul_lt_mul_of_pos_right h hzz⟩
  constructor
  · rw [← k (Y * Y * r), ← e1, ← e2]; omega
  · rw [← k (X * X), ← e1, ← e2]; omega
theorem sg_scale {x X z : Int} (hz : 0 < z) (h1 : x * 6 = X * z) : (0 ≤ x ↔ 0 ≤ X) ∧ (x ≤ 0 ↔ X ≤ 0) := by
  have k : ∀ p : Int, 0 ≤ p * z ↔ 0 ≤ p := fun p => ⟨fun h => by
    have : 0 * z ≤ p * z := by rw [Int.zero_mul]; exact h
    exact Int.le_of_mul_le_mul_right this hz, fun h => Int.mul_nonneg h (Int.le_of_lt hz)⟩
  have k2 : ∀ p : Int, p * z ≤ 0 ↔ p ≤ 0 := fun p => ⟨fun h => by
    have : p * z ≤ 0 * z := by rw [Int.zero_mul]; exact h
    exact Int.le_of_mul_le_mul_right this hz, fun h => by
    have := Int.mul_le_mul_of_nonneg_right h (Int.le_of_lt hz)
    rw [Int.zero_mul] at this
    exact this⟩
  constructor
  · rw [← k X, ← h1]; omega
  · rw [← k2 X, ← h1]; omega
theorem negV_scale {r x y z X Y : Int} (hz : 0 < z) (h1 : x * 6 = X * z) (h2 : y * 6 = Y * z) : negV r x y = negV r X Y := by
  obtain ⟨a1, a2⟩ := sg_scale hz h1
  obtain ⟨b1, b2⟩ := sg_scale hz h2
  obtain ⟨c1, c2⟩ := sq_scale (r := r) hz h1 h2
  have a3 : x < 0 ↔ X < 0 := by omega
  unfold negV
  simp only [a1, a2, b1, b2, a3, c1, c2]
theorem nm_less {r A B A' B' : Int} (hr : Bt 60 r) (hA : Bt 800 A) (hB : Bt 800 B) (hA' : Bt 800 A') (hB' : Bt 800 B') : d_less [.dat (.int r), .dat (nm A B), .dat (nm A' B')] = some (.inr (false, .bool (negV r (A - A') (B - B'))), [.no, .no, .no]) := by
  obtain ⟨a, b, c, e1, n⟩ := nm_ex A B
  obtain ⟨d, e, f, e2, n'⟩ := nm_ex A' B'
  obtain ⟨x, y, z, e3, m⟩ := nm_ex (A - A') (B - B')
  rw [e1, e2, less_by n.pos n'.pos ((n.ba hA).mono (by decide)) ((n.bb hB).mono (by decide)) (n.bc.mono (by decide)) ((n'.ba hA').mono (by decide)) ((n'.bb hB').mono (by decide)) (n'.bc.mono (by decide)) hr ((low_sub n n').trans e3), negV_scale m.pos m.h1 m.h2]
/-! ### roots are no fractions -/
theorem sq_mod {p : Int} (hp : p = 2 ∨ p = 3 ∨ p = 5 ∨ p = 7) {a c : Int} (h : a * a = c * p) : ∃ k, a = p * k := by
  have hm : (a % p) * (a % p) % p = 0 := by
    rw [← Int.mul_emod, h, Int.mul_emod_left]
  refine ⟨a / p, ?_⟩
  have : a % p = 0 := by
    have h1 : 0 ≤ a % p := Int.emod_nonneg _ (by omega)
    have h2 : a % p < p := Int.emod_lt_of_pos _ (by omega)
    generalize a % p = t at *
    rcases hp with rfl | rfl | rfl | rfl
    · have : t = 0 ∨ t = 1 := by omega
      rcases this with rfl | rfl <;> first | rfl | (exfalso; revert hm; decide)
    · have : t = 0 ∨ t = 1 ∨ t = 2 := by omega
      rcases this with rfl | rfl | rfl <;> first | rfl | (exfalso; revert hm; decide)
    · have : t = 0 ∨ t = 1 ∨ t = 2 ∨ t = 3 ∨ t = 4 := by omega
      rcases this with rfl | rfl | rfl | rfl | rfl <;> first | rfl | (exfalso; revert hm; decide)
    · have : t = 0 ∨ t = 1 ∨ t = 2 ∨ t = 3 ∨ t = 4 ∨ t = 5 ∨ t = 6 := by omega
      rcases this with rfl | rfl | rfl | rfl | rfl | rfl | rfl <;> first | rfl | (exfalso; revert hm; decide)
  have e := Int.mul_ediv_add_emod a p
  omega
theorem irr_aux {p : Int} (hp : p = 2 ∨ p = 3 ∨ p = 5 ∨ p = 7) : ∀ (n : Nat) (a b : Int), a.natAbs ≤ n → a * a = b * b * p → a = 0 := by
  intro n
  induction n with
  | zero => intro a b h _; omega
  | succ n ih =>
    intro a b h e
    obtain ⟨k, hk⟩ := sq_mod hp e
    have hp0 : p ≠ 0 := by omega
    have e2 : b * b = k * k * p := by
      refine Int.eq_of_mul_eq_mul_right hp0 ?_
      rw [← e, hk]
      grind
    obtain ⟨j, hj⟩ := sq_mod hp e2
    have e3 : k * k = j * j * p := by
      refine Int.eq_of_mul_eq_mul_right hp0 ?_
      rw [← e2, hj]
      grind
    by_cases hk0 : k = 0
    · rw [hk, hk0, Int.mul_zero]
    have hlt : k.natAbs ≤ n := by
      have : a.natAbs = p.natAbs * k.natAbs := by rw [hk, Int.natAbs_mul]
      have h2 : 2 * k.natAbs ≤ p.natAbs * k.natAbs := Nat.mul_le_mul_right _ (by omega)
      omega
    have := ih k j hlt e3
    omega
theorem root_irr {r a b : Int} (hr : okRoot r) (h0 : r = 0 → b = 0) (h : a * a = b * b * r) : a = 0 ∧ b = 0 := by
  by_cases hr0 : r = 0
  · have hb0 := h0 hr0
    subst hb0
    refine ⟨?_, rfl⟩
    have : a * a = 0 := by rw [h, hr0, Int.mul_zero]
    rcases Int.mul_eq_zero.mp this with h | h <;> exact h
  · have hp : r = 2 ∨ r = 3 ∨ r = 5 ∨ r = 7 := by rcases hr with h | h | h | h | h <;> omega
    have ha := irr_aux hp _ a b (Nat.le_refl _) h
    refine ⟨ha, ?_⟩
    rw [ha] at h
    have : b * b * r = 0 := by rw [← h]; rfl
    rcases Int.mul_eq_zero.mp this with h | h
    · rcases Int.mul_eq_zero.mp h with h | h <;> exact h
    · exact absurd h hr0
theorem heq_tt : hEq (.bool true) (.bool true) = some (.val (.bool true)) := by rfl
theorem heq_tf : hEq (.bool true) (.bool false) = some (.val (.bool false)) := by rfl
theorem heq_ft : hEq (.bool false) (.bool true) = some (.val (.bool false)) := by rfl
theorem heq_ff : hEq (.bool false) (.bool false) = some (.val (.bool true)) := by rfl
/-- the program's sign, told as the law's less -/
def sgV (r a b : Int) : Int := if a = 0 ∧ b = 0 then 0 else if negV r a b = true then -1 else 1
theorem sign_eq {r a b c : Int} (hr : okRoot r) (h0 : r = 0 → b = 0) (ba : Bt 900 a) (bb : Bt 900 b) : d_p_sign_of [.dat (.int r), .dat (tup3 a b c)] = some (.inr (false, .int (sgV r a b)), [.no, .no]) := by
  have br : Bt 60 r := by rcases hr with rfl | rfl | rfl | rfl | rfl <;> decide
  have o1 := ba.ok ba (by decide)
  have o2 := bb.ok bb (by decide)
  have o3 := (bb.mul bb).ok br (by decide)
  have irr := root_irr (a := a) (b := b) hr h0
  unfold sgV negV
  by_cases h1 : a = 0
  · subst h1
    by_cases h2 : b = 0
    · subst h2
      simp only [d_p_sign_of, mkFn, sCons, sSet, sPar, sUnp, sIf, sRet, sRetN, sDrop, sNil, sBrk, sCnt, bndS, bnd, rt, opt, fVar, fVal, fBin, fUn, rd1, rd2, Rv.rd, Sl.rd, fD, fzM, Rv.fz, fCons, fNil, dCons, dNil, aCons, aNil, aBoxN, aBox, fCall, resolve, boxes, bxpos, wb, fNm, rdAll, fTup, fLst, hAdd, hSub, hInt2, hMulL, hLt, hLe, hGt, hGe, hNeg, hAbs, hLen, hInt1, hMax2, hMin2, hIx, fSl, oNone, oSome, hSl, fB, toB, fAnd, fOr, fNot, fAndV, fOrV, fNotV, fChain, kName, kTup, kCons, kNil, slOk, sStore, fMt, mtGo, hApp, hFdiv, hMod, hDivmod, outs, List.length_cons, List.length_nil, List.getElem?_cons_zero, List.getElem?_cons_succ, List.getElem?_nil, List.set_cons_zero, List.set_cons_succ, List.replicate_succ, List.replicate_zero, List.cons_append, List.nil_append, Option.bind_some, Option.map_some, cond_true, cond_false, ite_true, ite_false, Nat.reduceAdd, Nat.reduceSub, Nat.reduceEqDiff, Nat.reduceLeDiff, if_true, if_false, reduceIte, atI_n0, atI_n1, atI_n2, atI_n3, ixN_10, ixN_20, ixN_21, hEq_int, hNe_int, Bool.not_true, decide_true, decide_false, hTuple, sTryK, sRaise, Bool.false_eq_true, Bool.not_false, sz0, sz1, sz2, sz3, sz4, sz5, sz6, sz7, sz8, and_self]
    · have d2 := decide_eq_false h2
      by_cases h3 : 0 ≤ b
      · have d3 := decide_eq_true h3
        simp only [d_p_sign_of, mkFn, sCons, sSet, sPar, sUnp, sIf, sRet, sRetN, sDrop, sNil, sBrk, sCnt, bndS, bnd, rt, opt, fVar, fVal, fBin, fUn, rd1, rd2, Rv.rd, Sl.rd, fD, fzM, Rv.fz, fCons, fNil, dCons, dNil, aCons, aNil, aBoxN, aBox, fCall, resolve, boxes, bxpos, wb, fNm, rdAll, fTup, fLst, hAdd, hSub, hInt2, hMulL, hLt, hLe, hGt, hGe, hNeg, hAbs, hLen, hInt1, hMax2, hMin2, hIx, fSl, oNone, oSome, hSl, fB, toB, fAnd, fOr, fNot, fAndV, fOrV, fNotV, fChain, kName, kTup, kCons, kNil, slOk, sStore, fMt, mtGo, hApp, hFdiv, hMod, hDivmod, outs, List.length_cons, List.length_nil, List.getElem?_cons_zero, List.getElem?_cons_succ, List.getElem?_nil, List.set_cons_zero, List.set_cons_succ, List.replicate_succ, List.replicate_zero, List.cons_append, List.nil_append, Option.bind_some, Option.map_some, cond_true, cond_false, ite_true, ite_false, Nat.reduceAdd, Nat.reduceSub, Nat.reduceEqDiff, Nat.reduceLeDiff, if_true, if_false, reduceIte, atI_n0, atI_n1, atI_n2, atI_n3, ixN_10, ixN_20, ixN_21, hEq_int, hNe_int, Bool.not_true, decide_true, decide_false, hTuple, sTryK, sRaise, Bool.false_eq_true, Bool.not_false, sz0, sz1, sz2, sz3, sz4, sz5, sz6, sz7, sz8, d2, d3, h2, h3, and_false, Int.le_refl, and_self, Bool.false_eq_true]
      · have d3 := decide_eq_false h3
        have h4 : b ≤ 0 := by omega
        have d4 := decide_eq_true h4
        simp only [d_p_sign_of, mkFn, sCons, sSet, sPar, sUnp, sIf, sRet, sRetN, sDrop, sNil, sBrk, sCnt, bndS, bnd, rt, opt, fVar, fVal, fBin, fUn, rd1, rd2, Rv.rd, Sl.rd, fD, fzM, Rv.fz, fCons, fNil, dCons, dNil, aCons, aNil, aBoxN, aBox, fCall, resolve, boxes, bxpos, wb, fNm, rdAll, fTup, fLst, hAdd, hSub, hInt2, hMulL, hLt, hLe, hGt, hGe, hNeg, hAbs, hLen, hInt1, hMax2, hMin2, hIx, fSl, oNone, oSome, hSl, fB, toB, fAnd, fOr, fNot, fAndV, fOrV, fNotV, fChain, kName, kTup, kCons, kNil, slOk, sStore, fMt, mtGo, hApp, hFdiv, hMod, hDivmod, outs, List.length_cons, List.length_nil, List.getElem?_cons_zero, List.getElem?_cons_succ, List.getElem?_nil, List.set_cons_zero, List.set_cons_succ, List.replicate_succ, List.replicate_zero, List.cons_append, List.nil_append, Option.bind_some, Option.map_some, cond_true, cond_false, ite_true, ite_false, Nat.reduceAdd, Nat.reduceSub, Nat.reduceEqDiff, Nat.reduceLeDiff, if_true, if_false, reduceIte, atI_n0, atI_n1, atI_n2, atI_n3, ixN_10, ixN_20, ixN_21, hEq_int, hNe_int, Bool.not_true, decide_true, decide_false, hTuple, sTryK, sRaise, Bool.false_eq_true, Bool.not_false, sz0, sz1, sz2, sz3, sz4, sz5, sz6, sz7, sz8, d2, d3, d4, h2, h3, h4, and_false, Int.le_refl, and_self, Bool.false_eq_true]
  · have d1 := decide_eq_false h1
    by_cases h3 : 0 ≤ a
    · have d3 := decide_eq_true h3
      have h5 : 0 < a := by omega
      have d5 := decide_eq_true h5
      have h6 : ¬ a ≤ 0 := by omega
      have d6 := decide_eq_false h6
      have h7 : ¬ a < 0 := by omega
      by_cases h2 : 0 ≤ b
      · have d2 := decide_eq_true h2
        simp only [d_p_sign_of, mkFn, sCons, sSet, sPar, sUnp, sIf, sRet, sRetN, sDrop, sNil, sBrk, sCnt, bndS, bnd, rt, opt, fVar, fVal, fBin, fUn, rd1, rd2, Rv.rd, Sl.rd, fD, fzM, Rv.fz, fCons, fNil, dCons, dNil, aCons, aNil, aBoxN, aBox, fCall, resolve, boxes, bxpos, wb, fNm, rdAll, fTup, fLst, hAdd, hSub, hInt2, hMulL, hLt, hLe, hGt, hGe, hNeg, hAbs, hLen, hInt1, hMax2, hMin2, hIx, fSl, oNone, oSome, hSl, fB, toB, fAnd, fOr, fNot, fAndV, fOrV, fNotV, fChain, kName, kTup, kCons, kNil, slOk, sStore, fMt, mtGo, hApp, hFdiv, hMod, hDivmod, outs, List.length_cons, List.length_nil, List.getElem?_cons_zero, List.getElem?_cons_succ, List.getElem?_nil, List.set_cons_zero, List.set_cons_succ, List.replicate_succ, List.replicate_zero, List.cons_append, List.nil_append, Option.bind_some, Option.map_some, cond_true, cond_false, ite_true, ite_false, Nat.reduceAdd, Nat.reduceSub, Nat.reduceEqDiff, Nat.reduceLeDiff, if_true, if_false, reduceIte, atI_n0, atI_n1, atI_n2, atI_n3, ixN_10, ixN_20, ixN_21, hEq_int, hNe_int, Bool.not_true, decide_true, decide_false, hTuple, sTryK, sRaise, Bool.false_eq_true, Bool.not_false, sz0, sz1, sz2, sz3, sz4, sz5, sz6, sz7, sz8, d1, d2, d3, h1, h2, h3, false_and, and_self, Bool.false_eq_true]
      · have d2 := decide_eq_false h2
        by_cases hq : b * b * r < a * a
        · have dq := decide_eq_true hq
          have hq2 : ¬ a * a < b * b * r := by omega
          have dq2 := decide_eq_false hq2
          simp only [d_p_sign_of, mkFn, sCons, sSet, sPar, sUnp, sIf, sRet, sRetN, sDrop, sNil, sBrk, sCnt, bndS, bnd, rt, opt, fVar, fVal, fBin, fUn, rd1, rd2, Rv.rd, Sl.rd, fD, fzM, Rv.fz, fCons, fNil, dCons, dNil, aCons, aNil, aBoxN, aBox, fCall, resolve, boxes, bxpos, wb, fNm, rdAll, fTup, fLst, hAdd, hSub, hInt2, hMulL, hLt, hLe, hGt, hGe, hNeg, hAbs, hLen, hInt1, hMax2, hMin2, hIx, fSl, oNone, oSome, hSl, fB, toB, fAnd, fOr, fNot, fAndV, fOrV, fNotV, fChain, kName, kTup, kCons, kNil, slOk, sStore, fMt, mtGo, hApp, hFdiv, hMod, hDivmod, outs, List.length_cons, List.length_nil, List.getElem?_cons_zero, List.getElem?_cons_succ, List.getElem?_nil, List.set_cons_zero, List.set_cons_succ, List.replicate_succ, List.replicate_zero, List.cons_append, List.nil_append, Option.bind_some, Option.map_some, cond_true, cond_false, ite_true, ite_false, Nat.reduceAdd, Nat.reduceSub, Nat.reduceEqDiff, Nat.reduceLeDiff, if_true, if_false, reduceIte, atI_n0, atI_n1, atI_n2, atI_n3, ixN_10, ixN_20, ixN_21, hEq_int, hNe_int, Bool.not_true, decide_true, decide_false, hTuple, sTryK, sRaise, Bool.false_eq_true, Bool.not_false, sz0, sz1, sz2, sz3, sz4, sz5, sz6, sz7, sz8, d1, d2, d3, d5, d6, h1, h2, h3, h6, h7, o1, o2, o3, dq, dq2, false_and, and_false, Bool.false_eq_true, heq_tt, heq_tf, heq_ft, heq_ff]
        · have dq := decide_eq_false hq
          have hq2 : a * a < b * b * r := by
            have : a * a ≠ b * b * r := fun e => h1 (irr e).1
            omega
          have dq2 := decide_eq_true hq2
          simp only [d_p_sign_of, mkFn, sCons, sSet, sPar, sUnp, sIf, sRet, sRetN, sDrop, sNil, sBrk, sCnt, bndS, bnd, rt, opt, fVar, fVal, fBin, fUn, rd1, rd2, Rv.rd, Sl.rd, fD, fzM, Rv.fz, fCons, fNil, dCons, dNil, aCons, aNil, aBoxN, aBox, fCall, resolve, boxes, bxpos, wb, fNm, rdAll, fTup, fLst, hAdd, hSub, hInt2, hMulL, hLt, hLe, hGt, hGe, hNeg, hAbs, hLen, hInt1, hMax2, hMin2, hIx, fSl, oNone, oSome, hSl, fB, toB, fAnd, fOr, fNot, fAndV, fOrV, fNotV, fChain, kName, kTup, kCons, kNil, slOk, sStore, fMt, mtGo, hApp, hFdiv, hMod, hDivmod, outs, List.length_cons, List.length_nil, List.getElem?_cons_zero, List.getElem?_cons_succ, List.getElem?_nil, List.set_cons_zero, List.set_cons_succ, List.replicate_succ, List.replicate_zero, List.cons_append, List.nil_append, Option.bind_some, Option.map_some, cond_true, cond_false, ite_true, ite_false, Nat.reduceAdd, Nat.reduceSub, Nat.reduceEqDiff, Nat.reduceLeDiff, if_true, if_false, reduceIte, atI_n0, atI_n1, atI_n2, atI_n3, ixN_10, ixN_20, ixN_21, hEq_int, hNe_int, Bool.not_true, decide_true, decide_false, hTuple, sTryK, sRaise, Bool.false_eq_true, Bool.not_false, sz0, sz1, sz2, sz3, sz4, sz5, sz6, sz7, sz8, d1, d2, d3, d5, d6, h1, h2, h3, h6, h7, o1, o2, o3, dq, dq2, false_and, and_false, Bool.false_eq_true, heq_tt, heq_tf, heq_ft, heq_ff]
    · have d3 := decide_eq_false h3
      have h4 : a ≤ 0 := by omega
      have d4 := decide_eq_true h4
      have h5 : ¬ 0 < a := by omega
      have d5 := decide_eq_false h5
      have h7 : a < 0 := by omega
      have d7 := decide_eq_true h7
      by_cases h2 : b ≤ 0
      · have d2 := decide_eq_true h2
        simp only [d_p_sign_of, mkFn, sCons, sSet, sPar, sUnp, sIf, sRet, sRetN, sDrop, sNil, sBrk, sCnt, bndS, bnd, rt, opt, fVar, fVal, fBin, fUn, rd1, rd2, Rv.rd, Sl.rd, fD, fzM, Rv.fz, fCons, fNil, dCons, dNil, aCons, aNil, aBoxN, aBox, fCall, resolve, boxes, bxpos, wb, fNm, rdAll, fTup, fLst, hAdd, hSub, hInt2, hMulL, hLt, hLe, hGt, hGe, hNeg, hAbs, hLen, hInt1, hMax2, hMin2, hIx, fSl, oNone, oSome, hSl, fB, toB, fAnd, fOr, fNot, fAndV, fOrV, fNotV, fChain, kName, kTup, kCons, kNil, slOk, sStore, fMt, mtGo, hApp, hFdiv, hMod, hDivmod, outs, List.length_cons, List.length_nil, List.getElem?_cons_zero, List.getElem?_cons_succ, List.getElem?_nil, List.set_cons_zero, List.set_cons_succ, List.replicate_succ, List.replicate_zero, List.cons_append, List.nil_append, Option.bind_some, Option.map_some, cond_true, cond_false, ite_true, ite_false, Nat.reduceAdd, Nat.reduceSub, Nat.reduceEqDiff, Nat.reduceLeDiff, if_true, if_false, reduceIte, atI_n0, atI_n1, atI_n2, atI_n3, ixN_10, ixN_20, ixN_21, hEq_int, hNe_int, Bool.not_true, decide_true, decide_false, hTuple, sTryK, sRaise, Bool.false_eq_true, Bool.not_false, sz0, sz1, sz2, sz3, sz4, sz5, sz6, sz7, sz8, d1, d2, d3, d4, h1, h2, h3, h4, false_and, and_self, Bool.false_eq_true]
      · have d2 := decide_eq_false h2
        by_cases hq : b * b * r < a * a
        · have dq := decide_eq_true hq
          simp only [d_p_sign_of, mkFn, sCons, sSet, sPar, sUnp, sIf, sRet, sRetN, sDrop, sNil, sBrk, sCnt, bndS, bnd, rt, opt, fVar, fVal, fBin, fUn, rd1, rd2, Rv.rd, Sl.rd, fD, fzM, Rv.fz, fCons, fNil, dCons, dNil, aCons, aNil, aBoxN, aBox, fCall, resolve, boxes, bxpos, wb, fNm, rdAll, fTup, fLst, hAdd, hSub, hInt2, hMulL, hLt, hLe, hGt, hGe, hNeg, hAbs, hLen, hInt1, hMax2, hMin2, hIx, fSl, oNone, oSome, hSl, fB, toB, fAnd, fOr, fNot, fAndV, fOrV, fNotV, fChain, kName, kTup, kCons, kNil, slOk, sStore, fMt, mtGo, hApp, hFdiv, hMod, hDivmod, outs, List.length_cons, List.length_nil, List.getElem?_cons_zero, List.getElem?_cons_succ, List.getElem?_nil, List.set_cons_zero, List.set_cons_succ, List.replicate_succ, List.replicate_zero, List.cons_append, List.nil_append, Option.bind_some, Option.map_some, cond_true, cond_false, ite_true, ite_false, Nat.reduceAdd, Nat.reduceSub, Nat.reduceEqDiff, Nat.reduceLeDiff, if_true, if_false, reduceIte, atI_n0, atI_n1, atI_n2, atI_n3, ixN_10, ixN_20, ixN_21, hEq_int, hNe_int, Bool.not_true, decide_true, decide_false, hTuple, sTryK, sRaise, Bool.false_eq_true, Bool.not_false, sz0, sz1, sz2, sz3, sz4, sz5, sz6, sz7, sz8, d1, d2, d3, d4, d5, h1, h2, h3, h4, h7, o1, o2, o3, dq, false_and, and_false, Bool.false_eq_true, heq_tt, heq_tf, heq_ft, heq_ff]
        · have dq := decide_eq_false hq
          simp only [d_p_sign_of, mkFn, sCons, sSet, sPar, sUnp, sIf, sRet, sRetN, sDrop, sNil, sBrk, sCnt, bndS, bnd, rt, opt, fVar, fVal, fBin, fUn, rd1, rd2, Rv.rd, Sl.rd, fD, fzM, Rv.fz, fCons, fNil, dCons, dNil, aCons, aNil, aBoxN, aBox, fCall, resolve, boxes, bxpos, wb, fNm, rdAll, fTup, fLst, hAdd, hSub, hInt2, hMulL, hLt, hLe, hGt, hGe, hNeg, hAbs, hLen, hInt1, hMax2, hMin2, hIx, fSl, oNone, oSome, hSl, fB, toB, fAnd, fOr, fNot, fAndV, fOrV, fNotV, fChain, kName, kTup, kCons, kNil, slOk, sStore, fMt, mtGo, hApp, hFdiv, hMod, hDivmod, outs, List.length_cons, List.length_nil, List.getElem?_cons_zero, List.getElem?_cons_succ, List.getElem?_nil, List.set_cons_zero, List.set_cons_succ, List.replicate_succ, List.replicate_zero, List.cons_append, List.nil_append, Option.bind_some, Option.map_some, cond_true, cond_false, ite_true, ite_false, Nat.reduceAdd, Nat.reduceSub, Nat.reduceEqDiff, Nat.reduceLeDiff, if_true, if_false, reduceIte, atI_n0, atI_n1, atI_n2, atI_n3, ixN_10, ixN_20, ixN_21, hEq_int, hNe_int, Bool.not_true, decide_true, decide_false, hTuple, sTryK, sRaise, Bool.false_eq_true, Bool.not_false, sz0, sz1, sz2, sz3, sz4, sz5, sz6, sz7, sz8, d1, d2, d3, d4, d5, h1, h2, h3, h4, h7, o1, o2, o3, dq, false_and, and_false, Bool.false_eq_true, heq_tt, heq_tf, heq_ft, heq_ff]
theorem nm_pless {r A B A' B' : Int} (hr : okRoot r) (h0 : r = 0 → B = 0 ∧ B' = 0) (hA : Bt 800 A) (hB : Bt 800 B) (hA' : Bt 800 A') (hB' : Bt 800 B') : d_p_less [.dat (.int r), .dat (nm A B), .dat (nm A' B')] = some (.inr (false, .bool (negV r (A - A') (B - B'))), [.no, .no, .no]) := by
  have e1 := nm_pminus (.int r) hA hB hA' hB'
  obtain ⟨x, y, z, e3, m⟩ := nm_ex (A - A') (B - B')
  rw [e3] at e1
  have y0 : r = 0 → y = 0 := fun h => by
    obtain ⟨b1, b2⟩ := h0 h
    have := m.h2
    rw [b1, b2] at this
    simp at this
    omega
  have e2 := sign_eq (c := z) hr y0 (m.ba ((hA.sub hA').mono (by decide))) (m.bb ((hB.sub hB').mono (by decide)))
  have e4 : decide (sgV r x y < 0) = negV r (A - A') (B - B') := by
    rw [← negV_scale m.pos m.h1 m.h2]
    unfold sgV
    by_cases h : x = 0 ∧ y = 0
    · rw [if_pos h, h.1, h.2]
      rfl
    · rw [if_neg h]
      cases q : negV r x y <;> simp
  generalize nm A B = N1 at e1 ⊢
  generalize nm A' B' = N2 at e1 ⊢
  simp only [d_p_less, mkFn, sCons, sSet, sPar, sUnp, sIf, sRet, sRetN, sDrop, sNil, sBrk, sCnt, bndS, bnd, rt, opt, fVar, fVal, fBin, fUn, rd1, rd2, Rv.rd, Sl.rd, fD, fzM, Rv.fz, fCons, fNil, dCons, dNil, aCons, aNil, aBoxN, aBox, fCall, resolve, boxes, bxpos, wb, fNm, rdAll, fTup, fLst, hAdd, hSub, hInt2, hMulL, hLt, hLe, hGt, hGe, hNeg, hAbs, hLen, hInt1, hMax2, hMin2, hIx, fSl, oNone, oSome, hSl, fB, toB, fAnd, fOr, fNot, fAndV, fOrV, fNotV, fChain, kName, kTup, kCons, kNil, slOk, sStore, fMt, mtGo, hApp, hFdiv, hMod, hDivmod, outs, List.length_cons, List.length_nil, List.getElem?_cons_zero, List.getElem?_cons_succ, List.getElem?_nil, List.set_cons_zero, List.set_cons_succ, List.replicate_succ, List.replicate_zero, List.cons_append, List.nil_append, Option.bind_some, Option.map_some, cond_true, cond_false, ite_true, ite_false, Nat.reduceAdd, Nat.reduceSub, Nat.reduceEqDiff, Nat.reduceLeDiff, if_true, if_false, reduceIte, atI_n0, atI_n1, atI_n2, atI_n3, ixN_10, ixN_20, ixN_21, hEq_int, hNe_int, Bool.not_true, decide_true, decide_false, hTuple, sTryK, sRaise, Bool.false_eq_true, Bool.not_false, sz0, sz1, sz2, sz3, sz4, sz5, sz6, sz7, sz8, e1, e2, e4]
/-! ### pairs over six -/
abbrev Pr := Int × Int
def nmP (p : Pr) : D := nm p.1 p.2
abbrev chN (r : Int) (L : List Pr) (O : List Int) : D := chD r (L.map nmP) O
theorem hEq_nm (p q : Pr) : hEq (nmP p) (nmP q) = some (.val (.bool (decide (p = q)))) := by
  obtain ⟨a, b, c, e, _⟩ := nm_ex p.1 p.2
  obtain ⟨a', b', c', e', _⟩ := nm_ex q.1 q.2
  unfold nmP
  rw [e, e', hEq_tup3]
  congr 3
  refine decide_eq_decide.mpr ⟨fun h => ?_, fun h => ?_⟩
  · obtain ⟨rfl, rfl, rfl⟩ := h
    have := nm_inj (e.trans e'.symm)
    exact Prod.ext this.1 this.2
  · subst h
    exact tup3_inj (e.symm.trans e')
def subP (p q : Pr) : Pr := (p.1 - q.1, p.2 - q.2)
def addP (p q : Pr) : Pr := (p.1 + q.1, p.2 + q.2)
abbrev BtP (k : Nat) (p : Pr) : Prop := Bt k p.1 ∧ Bt k p.2
def ltP (r : Int) (p q : Pr) : Bool := negV r (p.1 - q.1) (p.2 - q.2)
theorem negP {r : Int} {p q : Pr} : negV r (q.1 - p.1) (q.2 - p.2) = ltP r q p := rfl
structure Okc (r : Int) (k : Nat) (L : List Pr) (O : List Int) : Prop where
  hp : O.Perm (upto L.length)
  h0 : 1 ≤ L.length
  hl : L.length ≤ 400
  bt : ∀ p ∈ L, BtP k p
  z : r = 0 → ∀ p ∈ L, p.2 = 0
def sumI : List Int → Int
  | [] => 0
  | x :: l => x + sumI l
def sumP (L : List Pr) : Pr := (sumI (L.map (·.1)), sumI (L.map (·.2)))
theorem sumI_perm {a b : List Int} (h : a.Perm b) : sumI a = sumI b := by
  induction h with
  | nil => rfl
  | cons x _ ih => show x + sumI _ = x + sumI _; rw [ih]
  | swap x y l => show y + (x + sumI l) = x + (y + sumI l); omega
  | trans _ _ h1 h2 => exact h1.trans h2
theorem sumI_set : ∀ {l : List Int} {i : Nat} {x y : Int}, l[i]? = some x → sumI (l.set i y) = sumI l - x + y
  | [], _, _, _, h => by simp at h
  | z :: l, 0, x, y, h => by
    have : z = x := by simpa using h
    subst this
    show y + sumI l = z + sumI l - z + y
    omega
  | z :: l, i + 1, x, y, h => by
    show z + sumI (l.set i y) = z + sumI l - x + y
    rw [sumI_set (show l[i]? = some x by simpa using h)]
    omega
theorem sumP_perm {a b : List Pr} (h : a.Perm b) : sumP a = sumP b := by
  unfold sumP
  rw [sumI_perm (h.map _), sumI_perm (h.map (·.2))]
theorem sumP_set {L : List Pr} {i : Nat} {p q : Pr} (h : L[i]? = some p) : sumP (L.set i (subP p q)) = subP (sumP L) q := by
  unfold sumP
  rw [List.map_set, List.map_set, sumI_set (x := p.1) (by rw [List.getElem?_map, h]; rfl), sumI_set (x := p.2) (by rw [List.getElem?_map, h]; rfl)]
  unfold subP
  exact Prod.ext (by show _ - p.1 + (p.1 - q.1) = _ - q.1; omega) (by show _ - p.2 + (p.2 - q.2) = _ - q.2; omega)
theorem BtP.sub {k : Nat} {p q : Pr} (h : BtP k p) (h2 : BtP k q) : BtP (k + 1) (subP p q) := ⟨(h.1.sub h2.1).mono (by simp), (h.2.sub h2.2).mono (by simp)⟩
theorem BtP.mono {k m : Nat} {p : Pr} (h : BtP k p) (h2 : k ≤ m) : BtP m p := ⟨Bt.mono h.1 h2, Bt.mono h.2 h2⟩
theorem sub_add (p q : Pr) : (subP p q).1 + q.1 = p.1 ∧ (subP p q).2 + q.2 = p.2 := by unfold subP; exact ⟨by omega, by omega⟩
theorem BtP.add {j k : Nat} {p q : Pr} (h : BtP j p) (h2 : BtP k q) (hk : k ≤ j) : BtP (j + 1) (addP p q) := ⟨(h.1.add h2.1).mono (by omega), (h.2.add h2.2).mono (by omega)⟩
theorem sumP_cons (p : Pr) (L : List Pr) (h : Pr) : addP (addP h p) (sumP L) = addP h (sumP (p :: L)) := by
  unfold addP sumP
  exact Prod.ext (by show h.1 + p.1 + sumI (L.map (·.1)) = h.1 + (p.1 + sumI (L.map (·.1))); omega) (by show h.2 + p.2 + sumI (L.map (·.2)) = h.2 + (p.2 + sumI (L.map (·.2))); omega)
theorem isum_bits : ∀ (L : List Int) (k : Nat), 1 ≤ k → (∀ x ∈ L, Bt k x) → Bt (k + L.length) (sumI L)
  | [], k, hk, _ => Bt.mono (show Bt 1 (0 : Int) by decide) (by omega)
  | x :: L, k, hk, h => by
    have h1 := h x List.mem_cons_self
    have h2 := isum_bits L k hk fun y hy => h y (List.mem_cons_of_mem _ hy)
    have := h1.add h2
    rw [List.length_cons]
    exact Bt.mono this (by omega)
theorem sum_bits {L : List Pr} {k : Nat} (hk : 1 ≤ k) (h : ∀ p ∈ L, BtP k p) : BtP (k + L.length) (sumP L) := by
  constructor
  · have := isum_bits (L.map (·.1)) k hk (fun x hx => by obtain ⟨p, hp, rfl⟩ := List.mem_map.mp hx; exact (h p hp).1)
    rw [List.length_map] at this
    exact this
  · have := isum_bits (L.map (·.2)) k hk (fun x hx => by obtain ⟨p, hp, rfl⟩ := List.mem_map.mp hx; exact (h p hp).2)
    rw [List.length_map] at this
    exact this
theorem isum_pos : ∀ {L : List Int}, L ≠ [] → (∀ x ∈ L, 0 < x) → 0 < sumI L
  | [], h, _ => absurd rfl h
  | [x], _, h => by show 0 < x + 0; have := h x List.mem_cons_self; omega
  | x :: y :: L, _, h => by
    have h1 := h x List.mem_cons_self
    have h2 := isum_pos (L := y :: L) (by simp) fun z hz => h z (List.mem_cons_of_mem _ hz)
    show 0 < x + sumI (y :: L)
    omega
theorem sum_pos {L : List Pr} (h0 : 1 ≤ L.length) (h : ∀ x ∈ L, 0 < x.1) : 0 < (sumP L).1 := by
  refine isum_pos (L := L.map (·.1)) ?_ fun x hx => ?_
  · intro e
    rw [List.map_eq_nil_iff] at e
    rw [e] at h0
    simp at h0
  · obtain ⟨p, hp, rfl⟩ := List.mem_map.mp hx
    exact h p hp
theorem good_nm {r : Int} {x : D} (h : GoodL r x) : ∃ p : Pr, x = nmP p ∧ BtP 10 p ∧ (r = 0 → p.2 = 0 ∧ 0 < p.1) := by
  obtain ⟨a, b, c, rfl, hc, hc3, ha, ha2, hb, hb2, nv, nz, r0, g⟩ := h
  have key : ∀ k : Int, 0 < k → k ≤ 6 → c * k = 6 → ∃ p : Pr, tup3 a b c = nmP p ∧ BtP 10 p ∧ (r = 0 → p.2 = 0 ∧ 0 < p.1) := by
    intro k k0 k6 hk
    have ma : (a * k).natAbs ≤ 54 := by
      rw [Int.natAbs_mul]
      exact Nat.le_trans (Nat.mul_le_mul (show a.natAbs ≤ 9 by omega) (show k.natAbs ≤ 6 by omega)) (by decide)
    have mb : (b * k).natAbs ≤ 54 := by
      rw [Int.natAbs_mul]
      exact Nat.le_trans (Nat.mul_le_mul (show b.natAbs ≤ 9 by omega) (show k.natAbs ≤ 6 by omega)) (by decide)
    refine ⟨(a * k, b * k), (nm_of hc g ?_ ?_).symm, ⟨bits_le (by show (a * k).natAbs < _; omega), bits_le (by show (b * k).natAbs < _; omega)⟩, fun h0 => ?_⟩
    · rw [← hk, Int.mul_comm c k, ← Int.mul_assoc]
    · rw [← hk, Int.mul_comm c k, ← Int.mul_assoc]
    · have b0 := r0 h0
      subst b0
      have ha3 : 0 < a := by
        unfold negV at nv
        by_cases h : 0 ≤ a ∧ (0 : Int) ≤ 0
        · omega
        · rw [if_neg h, if_pos (by omega)] at nv
          cases nv
      exact ⟨Int.zero_mul k, Int.mul_pos ha3 k0⟩
  have : c = 1 ∨ c = 2 ∨ c = 3 := by omega
  rcases this with rfl | rfl | rfl
  · exact key 6 (by decide) (by decide) rfl
  · exact key 3 (by decide) (by decide) rfl
  · exact key 2 (by decide) (by decide) rfl
theorem goods_nm {r : Int} : ∀ {xs : List D}, (∀ x ∈ xs, GoodL r x) → ∃ L : List Pr, xs = L.map nmP ∧ (∀ p ∈ L, BtP 10 p) ∧ (r = 0 → ∀ p ∈ L, p.2 = 0) ∧ (r = 0 → ∀ p ∈ L, 0 < p.1)
  | [], _ => ⟨[], rfl, by simp, by simp, by simp⟩
  | x :: xs, h => by
    obtain ⟨p, rfl, h1, h2⟩ := good_nm (h x List.mem_cons_self)
    obtain ⟨L, rfl, h3, h4, h5⟩ := goods_nm (xs := xs) fun y hy => h y (List.mem_cons_of_mem _ hy)
    refine ⟨p :: L, rfl, fun q hq => ?_, fun r0 q hq => ?_, fun r0 q hq => ?_⟩ <;> rcases List.mem_cons.mp hq with rfl | hq
    · exact h1
    · exact h3 q hq
    · exact (h2 r0).1
    · exact h4 r0 q hq
    · exact (h2 r0).2
    · exact h5 r0 q hq
theorem noB_nm (p : Pr) : noB (nmP p) = true ∧ ∀ k, dpth (k + 1) (nmP p) = true := by
  obtain ⟨a, b, c, e, _⟩ := nm_ex p.1 p.2
  have e' : nmP p = tup3 a b c := e
  rw [e']
  exact ⟨noB_tup3 a b c, fun k => by simp [dpth, dpths]⟩
theorem noB_chN (r : Int) (L : List Pr) (O : List Int) : noB (chN r L O) = true ∧ dpth 3 (chN r L O) = true := by
  have h1 : noBs (L.map nmP) = true := noBs_of fun x hx => by obtain ⟨p, _, rfl⟩ := List.mem_map.mp hx; exact (noB_nm p).1
  have h2 : dpths 1 (L.map nmP) = true := dpths_of fun x hx => by obtain ⟨p, _, rfl⟩ := List.mem_map.mp hx; exact (noB_nm p).2 0
  have h3 := noBs_ints O
  have h4 := dpths_ints 1 O
  simp [noB, noBs, dpth, dpths, h1, h2, h3, h4]
theorem ne_refl {d : D} {k : Nat} (n1 : noB d = true) (n2 : dpth k d = true) (hk : k ≤ 64) : hNe d d = some (.val (.bool false)) := hNe_t (shaped_by k n1 n2 hk) (shaped_by k n1 n2 hk) (eqv_same n1)
theorem ne_nmP (p : Pr) : hNe (nmP p) (nmP p) = some (.val (.bool false)) := ne_refl (noB_nm p).1 ((noB_nm p).2 0) (by decide)
theorem ne_ints (l : List Int) : hNe (.list (l.map PyData.int)) (.list (l.map PyData.int)) = some (.val (.bool false)) := ne_refl (k := 1) (noB_ints l) (by simp only [dpth]; exact dpths_ints 0 l) (by decide)
theorem nmP_inj {p q : Pr} (h : nmP p = nmP q) : p = q := by
  have := nm_inj h
  exact Prod.ext this.1 this.2
theorem nmPs_inj : ∀ {L M : List Pr}, L.map nmP = M.map nmP → L = M
  | [], [], _ => rfl
  | [], _ :: _, h => by simp at h
  | _ :: _, [], h => by simp at h
  | p :: L, q :: M, h => by
    rw [List.map_cons, List.map_cons] at h
    injection h with h1 h2
    rw [nmP_inj h1, nmPs_inj h2]
/-! ### ends, plainly -/
def pre (h : Pr) : List Pr → List Pr
  | [] => []
  | p :: L => addP h p :: pre (addP h p) L
theorem pre_len : ∀ (h : Pr) (L : List Pr), (pre h L).length = L.length
  | _, [] => rfl
  | h, p :: L => by show (pre (addP h p) L).length + 1 = _; rw [pre_len]; rfl
theorem add0 (p : Pr) : addP (0, 0) p = p := by unfold addP; exact Prod.ext (by show 0 + _ = _; omega) (by show 0 + _ = _; omega)
theorem addS0 (p : Pr) : addP p (sumP []) = p := by unfold addP sumP; exact Prod.ext (by show p.1 + 0 = _; omega) (by show p.2 + 0 = _; omega)
theorem pre_get : ∀ {h : Pr} {L : List Pr} {i : Nat}, i < L.length → (pre h L)[i]? = some (addP h (sumP (L.take (i + 1))))
  | _, [], _, hi => by simp at hi
  | h, p :: L, 0, _ => by
    show some (addP h p) = some (addP h (sumP [p]))
    rw [← sumP_cons, addS0]
  | h, p :: L, i + 1, hi => by
    show (pre (addP h p) L)[i]? = _
    rw [pre_get (by simpa using hi), sumP_cons]
    rfl
theorem pre_last {h : Pr} {L : List Pr} (h0 : L ≠ []) : (pre h L).getLast? = some (addP h (sumP L)) := by
  have hl : 0 < L.length := List.length_pos_iff.mpr h0
  rw [List.getLast?_eq_getElem?, pre_len, pre_get (by omega), List.take_of_length_le (by omega)]
theorem BtP.zero {k : Nat} (hk : 1 ≤ k) : BtP k (0, 0) := ⟨Bt.mono (show Bt 1 (0 : Int) by decide) hk, Bt.mono (show Bt 1 (0 : Int) by decide) hk⟩
theorem nm00 : nmP (0, 0) = tup3 0 0 1 := nm_of (by decide) (by decide) (by decide) (by decide)
/-! ### numbers with a root, ordered -/
theorem sq_le_of {x y : Int} (hx : 0 ≤ x) (h : x ≤ y) : x * x ≤ y * y := Int.mul_le_mul h h hx (Int.le_trans hx h)
theorem sq_lt_of {x y : Int} (hx : 0 ≤ x) (h : x < y) : x * x < y * y := by
  have h1 := Int.mul_le_mul_of_nonneg_left (Int.le_of_lt h) hx
  have h2 := Int.mul_lt_mul_of_pos_right h (show 0 < y by omega)
  omega
theorem le_of_sq {x y : Int} (hy : 0 ≤ y) (h : x * x ≤ y * y) : x ≤ y := by
  refine Int.not_lt.mp fun q => ?_
  have := sq_lt_of hy q
  omega
theorem sq_nn (x : Int) : 0 ≤ x * x := by
  rcases Int.le_total 0 x with h | h
  · exact Int.mul_nonneg h h
  · exact Int.mul_nonneg_of_nonpos_of_nonpos h h
/-- x ≤ y√r, u ≤ v√r: xu ≤ yvr -/
theorem cross_le {x y u v r : Int} (hy : 0 ≤ y) (hv : 0 ≤ v) (hr : 0 ≤ r) (h1 : x * x ≤ y * y * r) (h2 : u * u ≤ v * v * r) : x * u ≤ y * v * r := by
  refine le_of_sq (Int.mul_nonneg (Int.mul_nonneg hy hv) hr) ?_
  have e1 : x * u * (x * u) = (x * x) * (u * u) := by grind
  have e2 : y * v * r * (y * v * r) = (y * y * r) * (v * v * r) := by grind
  rw [e1, e2]
  exact Int.mul_le_mul h1 h2 (sq_nn u) (Int.mul_nonneg (sq_nn y) hr)
theorem cross_ge {x y u v r : Int} (hx : 0 ≤ x) (hu : 0 ≤ u) (hr : 0 ≤ r) (h1 : y * y * r ≤ x * x) (h2 : v * v * r ≤ u * u) : y * v * r ≤ x * u := by
  refine le_of_sq (Int.mul_nonneg hx hu) ?_
  have e1 : x * u * (x * u) = (x * x) * (u * u) := by grind
  have e2 : y * v * r * (y * v * r) = (y * y * r) * (v * v * r) := by grind
  rw [e1, e2]
  exact Int.mul_le_mul h1 h2 (Int.mul_nonneg (sq_nn v) hr) (sq_nn x)
theorem add_lt {x y u v r : Int} (hy : 0 ≤ y) (hv : 0 ≤ v) (hr : 0 ≤ r) (h1 : x * x ≤ y * y * r) (h2 : u * u < v * v * r) : (x + u) * (x + u) < (y + v) * (y + v) * r := by
  have h := cross_le hy hv hr h1 (Int.le_of_lt h2)
  have e1 : (x + u) * (x + u) = x * x + 2 * (x * u) + u * u := by grind
  have e2 : (y + v) * (y + v) * r = y * y * r + 2 * (y * v * r) + v * v * r := by grind
  omega
theorem add_gt {x y u v r : Int} (hx : 0 ≤ x) (hu : 0 ≤ u) (hr : 0 ≤ r) (h1 : y * y * r ≤ x * x) (h2 : v * v * r < u * u) : (y + v) * (y + v) * r < (x + u) * (x + u) := by
  have h := cross_ge hx hu hr h1 (Int.le_of_lt h2)
  have e1 : (x + u) * (x + u) = x * x + 2 * (x * u) + u * u := by grind
  have e2 : (y + v) * (y + v) * r = y * y * r + 2 * (y * v * r) + v * v * r := by grind
  omega
/-- below nought, told apart -/
theorem neg_iff {r a b : Int} : negV r a b = true ↔ (a ≤ 0 ∧ b ≤ 0 ∧ ¬ (a = 0 ∧ b = 0)) ∨ (a < 0 ∧ 0 < b ∧ b * b * r < a * a) ∨ (0 < a ∧ b < 0 ∧ a * a < b * b * r) := by
  unfold negV
  by_cases h1 : 0 ≤ a ∧ 0 ≤ b
  · rw [if_pos h1]
    constructor
    · intro h; cases h
    · rintro (h | h | h) <;> omega
  · rw [if_neg h1]
    by_cases h2 : a ≤ 0 ∧ b ≤ 0
    · rw [if_pos h2]
      exact ⟨fun _ => .inl (by omega), fun _ => rfl⟩
    · rw [if_neg h2]
      by_cases h3 : a < 0
      · rw [if_pos h3, decide_eq_true_eq]
        constructor
        · intro h; exact .inr (.inl ⟨h3, by omega, h⟩)
        · rintro (h | h | h)
          · omega
          · exact h.2.2
          · omega
      · rw [if_neg h3, decide_eq_true_eq]
        constructor
        · intro h; exact .inr (.inr ⟨by omega, by omega, h⟩)
        · rintro (h | h | h)
          · omega
          · omega
          · exact h.2.2
theorem sq_le_neg {x y : Int} (hx : x ≤ 0) (h : y ≤ x) : x * x ≤ y * y := by
  have := sq_le_of (x := -x) (y := -y) (by omega) (by omega)
  rwa [Int.neg_mul_neg, Int.neg_mul_neg] at this
theorem mr {x y r : Int} (hr : 0 ≤ r) (h : x ≤ y) : x * r ≤ y * r := Int.mul_le_mul_of_nonneg_right h hr
theorem neg_add1 {r a b c d : Int} (hr : 0 ≤ r) (h1 : a ≤ 0 ∧ b ≤ 0) (h2 : negV r c d = true) : negV r (a + c) (b + d) = true := by
  rw [neg_iff] at h2 ⊢
  rcases h2 with h | ⟨p, q, h⟩ | ⟨p, q, h⟩
  · exact .inl (by omega)
  · by_cases k : b + d ≤ 0
    · exact .inl (by omega)
    · refine .inr (.inl ⟨by omega, by omega, ?_⟩)
      have m1 := mr hr (sq_le_of (x := b + d) (y := d) (by omega) (by omega))
      have m2 := sq_le_neg (x := c) (y := a + c) (by omega) (by omega)
      omega
  · by_cases k : a + c ≤ 0
    · exact .inl (by omega)
    · refine .inr (.inr ⟨by omega, by omega, ?_⟩)
      have m1 := sq_le_of (x := a + c) (y := c) (by omega) (by omega)
      have m2 := mr hr (sq_le_neg (x := d) (y := b + d) (by omega) (by omega))
      omega
theorem nsq (x : Int) : -x * -x = x * x := Int.neg_mul_neg x x
theorem neg_add23 {r a b c d : Int} (hr : 0 ≤ r) (h1 : a < 0 ∧ 0 < b ∧ b * b * r < a * a) (h2 : 0 < c ∧ d < 0 ∧ c * c < d * d * r) : negV r (a + c) (b + d) = true := by
  obtain ⟨p1, p2, p3⟩ := h1
  obtain ⟨q1, q2, q3⟩ := h2
  rw [neg_iff]
  by_cases k1 : a + c ≤ 0
  · by_cases k2 : b + d ≤ 0
    · refine .inl ⟨k1, k2, fun ⟨z1, z2⟩ => ?_⟩
      have e1 : c = -a := by omega
      have e2 : d = -b := by omega
      rw [e1, e2, nsq, nsq] at q3
      omega
    · by_cases k3 : a + c = 0
      · exfalso
        have e1 : c = -a := by omega
        rw [e1, nsq] at q3
        have m := mr hr (sq_le_of (x := -d) (y := b) (by omega) (by omega))
        rw [nsq] at m
        omega
      · refine .inr (.inl ⟨by omega, by omega, ?_⟩)
        refine Int.not_le.mp fun z => ?_
        have m := add_lt (x := -(a + c)) (y := b + d) (u := c) (v := -d) (r := r) (by omega) (by omega) hr (by rw [nsq]; exact z) (by rw [nsq]; exact q3)
        rw [show -(a + c) + c = -a by omega, show b + d + -d = b by omega, nsq] at m
        omega
  · by_cases k2 : b + d < 0
    · refine .inr (.inr ⟨by omega, k2, ?_⟩)
      refine Int.not_le.mp fun z => ?_
      have m := add_gt (x := a + c) (y := -(b + d)) (u := -a) (v := b) (r := r) (by omega) (by omega) hr (by rw [nsq]; exact z) (by rw [nsq]; exact p3)
      rw [show a + c + -a = c by omega, show -(b + d) + b = -d by omega, nsq] at m
      omega
    · exfalso
      have m1 := mr hr (sq_le_of (x := -d) (y := b) (by omega) (by omega))
      have m2 := sq_le_of (x := -a) (y := c) (by omega) (by omega)
      rw [nsq] at m1 m2
      omega
/-- sums of what is below nought are -/
theorem neg_add {r a b c d : Int} (hr : 0 ≤ r) (h1 : negV r a b = true) (h2 : negV r c d = true) : negV r (a + c) (b + d) = true := by
  rcases neg_iff.mp h1 with h | h | h
  · exact neg_add1 hr ⟨h.1, h.2.1⟩ h2
  · rcases neg_iff.mp h2 with k | k | k
    · rw [Int.add_comm a, Int.add_comm b]
      exact neg_add1 hr ⟨k.1, k.2.1⟩ h1
    · obtain ⟨p1, p2, p3⟩ := h
      obtain ⟨q1, q2, q3⟩ := k
      refine neg_iff.mpr (.inr (.inl ⟨by omega, by omega, ?_⟩))
      have m := add_gt (x := -a) (y := b) (u := -c) (v := d) (r := r) (by omega) (by omega) hr (by rw [nsq]; omega) (by rw [nsq]; exact q3)
      rw [show -a + -c = -(a + c) by omega, nsq] at m
      exact m
    · exact neg_add23 hr h k
  · rcases neg_iff.mp h2 with k | k | k
    · rw [Int.add_comm a, Int.add_comm b]
      exact neg_add1 hr ⟨k.1, k.2.1⟩ h1
    · rw [Int.add_comm a, Int.add_comm b]
      exact neg_add23 hr k h
    · obtain ⟨p1, p2, p3⟩ := h
      obtain ⟨q1, q2, q3⟩ := k
      refine neg_iff.mpr (.inr (.inr ⟨by omega, by omega, ?_⟩))
      have m := add_lt (x := a) (y := -b) (u := c) (v := -d) (r := r) (by omega) (by omega) hr (by rw [nsq]; omega) (by rw [nsq]; exact q3)
      rw [show -b + -d = -(b + d) by omega, nsq] at m
      exact m
theorem neg_zero (r : Int) : negV r 0 0 = false := by unfold negV; rw [if_pos (by omega)]
theorem neg_anti {r a b : Int} (hr : 0 ≤ r) (h : negV r a b = true) : negV r (-a) (-b) = false := by
  cases q : negV r (-a) (-b) with
  | false => rfl
  | true =>
    have := neg_add hr h q
    rw [show a + -a = 0 by omega, show b + -b = 0 by omega, neg_zero] at this
    cases this
theorem okRoot.nn {r : Int} (h : okRoot r) : 0 ≤ r := by rcases h with h | h | h | h | h <;> omega
theorem neg_total {r a b : Int} (hr : okRoot r) (h0 : r = 0 → b = 0) (h : ¬ (a = 0 ∧ b = 0)) : negV r a b = true ∨ negV r (-a) (-b) = true := by
  rw [neg_iff, neg_iff]
  have irr := root_irr (a := a) (b := b) hr h0
  rw [nsq, nsq]
  by_cases h1 : a ≤ 0
  · by_cases h2 : b ≤ 0
    · exact .inl (.inl (by omega))
    · by_cases h3 : a = 0
      · exact .inr (.inl (by omega))
      · rcases Int.lt_trichotomy (b * b * r) (a * a) with k | k | k
        · exact .inl (.inr (.inl ⟨by omega, by omega, k⟩))
        · exact absurd (irr k.symm) h
        · exact .inr (.inr (.inr ⟨by omega, by omega, k⟩))
  · by_cases h2 : 0 ≤ b
    · exact .inr (.inl (by omega))
    · rcases Int.lt_trichotomy (b * b * r) (a * a) with k | k | k
      · exact .inr (.inr (.inl ⟨by omega, by omega, k⟩))
      · exact absurd (irr k.symm) h
      · exact .inl (.inr (.inr ⟨by omega, by omega, k⟩))
/-! the order of pairs -/
theorem lt_trans {r : Int} (hr : 0 ≤ r) {p q s : Pr} (h1 : ltP r p q = true) (h2 : ltP r q s = true) : ltP r p s = true := by
  unfold ltP at *
  have := neg_add hr h1 h2
  rwa [show p.1 - q.1 + (q.1 - s.1) = p.1 - s.1 by omega, show p.2 - q.2 + (q.2 - s.2) = p.2 - s.2 by omega] at this
theorem lt_irr (r : Int) (p : Pr) : ltP r p p = false := by
  unfold ltP
  rw [Int.sub_self, Int.sub_self, neg_zero]
theorem lt_asymm {r : Int} (hr : 0 ≤ r) {p q : Pr} (h : ltP r p q = true) : ltP r q p = false := by
  cases e : ltP r q p with
  | false => rfl
  | true => have := lt_trans hr h e; rw [lt_irr] at this; cases this
/-- of root 0 there is no root part -/
abbrev Zp (r : Int) (p : Pr) : Prop := r = 0 → p.2 = 0
theorem lt_tri {r : Int} (hr : okRoot r) {p q : Pr} (hp : Zp r p) (hq : Zp r q) : ltP r p q = true ∨ p = q ∨ ltP r q p = true := by
  by_cases h : p.1 - q.1 = 0 ∧ p.2 - q.2 = 0
  · exact .inr (.inl (Prod.ext (by omega) (by omega)))
  · rcases neg_total hr (fun h0 => by rw [hp h0, hq h0]; rfl) h with k | k
    · exact .inl k
    · refine .inr (.inr ?_)
      rwa [show -(p.1 - q.1) = q.1 - p.1 by omega, show -(p.2 - q.2) = q.2 - p.2 by omega] at k
abbrev leP (r : Int) (p q : Pr) : Prop := ltP r q p = false
theorem le_of_lt {r : Int} (hr : 0 ≤ r) {p q : Pr} (h : ltP r p q = true) : leP r p q := lt_asymm hr h
theorem le_cases {r : Int} (hr : okRoot r) {p q : Pr} (hp : Zp r p) (hq : Zp r q) (h : leP r p q) : ltP r p q = true ∨ p = q := by
  rcases lt_tri hr hp hq with k | k | k
  · exact .inl k
  · exact .inr k
  · rw [h] at k; cases k
theorem lt_le_trans {r : Int} (hr : okRoot r) {p q s : Pr} (hq : Zp r q) (hs : Zp r s) (h1 : ltP r p q = true) (h2 : leP r q s) : ltP r p s = true := by
  rcases le_cases hr hq hs h2 with k | k
  · exact lt_trans hr.nn h1 k
  · rw [← k]; exact h1
theorem le_lt_trans {r : Int} (hr : okRoot r) {p q s : Pr} (hp : Zp r p) (hq : Zp r q) (h1 : leP r p q) (h2 : ltP r q s = true) : ltP r p s = true := by
  rcases le_cases hr hp hq h1 with k | k
  · exact lt_trans hr.nn k h2
  · rw [k]; exact h2
theorem le_trans {r : Int} (hr : okRoot r) {p q s : Pr} (hp : Zp r p) (hq : Zp r q) (h1 : leP r p q) (h2 : leP r q s) : leP r p s := by
  rcases le_cases hr hp hq h1 with k | k
  · cases e : ltP r s p with
    | false => exact e
    | true => have := lt_trans hr.nn e k; rw [show ltP r s q = false from h2] at this; cases this
  · rw [k]; exact h2
theorem le_refl (r : Int) (p : Pr) : leP r p p := lt_irr r p
theorem lt_add {r : Int} (p q s : Pr) : ltP r (addP p s) (addP q s) = ltP r p q := by
  unfold ltP addP
  show negV r (p.1 + s.1 - (q.1 + s.1)) (p.2 + s.2 - (q.2 + s.2)) = _
  rw [show p.1 + s.1 - (q.1 + s.1) = p.1 - q.1 by omega, show p.2 + s.2 - (q.2 + s.2) = p.2 - q.2 by omega]
theorem lt_addl {r : Int} (p q s : Pr) : ltP r (addP s p) (addP s q) = ltP r p q := by
  unfold ltP addP
  show negV r (s.1 + p.1 - (s.1 + q.1)) (s.2 + p.2 - (s.2 + q.2)) = _
  rw [show s.1 + p.1 - (s.1 + q.1) = p.1 - q.1 by omega, show s.2 + p.2 - (s.2 + q.2) = p.2 - q.2 by omega]
/-- above nought -/
abbrev posP (r : Int) (p : Pr) : Prop := ltP r (0, 0) p = true
theorem lt_step {r : Int} {p q : Pr} (h : posP r q) : ltP r p (addP p q) = true := by
  unfold posP ltP at h
  unfold ltP addP
  show negV r (p.1 - (p.1 + q.1)) (p.2 - (p.2 + q.2)) = true
  rw [show p.1 - (p.1 + q.1) = 0 - q.1 by omega, show p.2 - (p.2 + q.2) = 0 - q.2 by omega]
  exact h
/-! ### comprehensions over lists of any kind -/
theorem lcL_list {α : Type} {vs : List Nat} {g : D → Fs → Option Fs} {tt : M Bool} {fe : M Rv} (e : α → D) (p : α → Bool) (F : α → D) (fs : Fs) : ∀ (l : List α) (acc : List D), acc.length + l.length ≤ sizeLine →
    (∀ x ∈ l, ∃ fs1 fs2, g (e x) fs = some fs1 ∧ tt fs1 = some (.inr (p x), fs2) ∧ (p x = false → wipeF fs2 vs = fs) ∧ (p x = true → ∃ fs3, fD fe fs2 = some (.inr (F x), fs3) ∧ wipeF fs3 vs = fs)) →
    lcL vs g tt fe (l.map e) acc fs = some (acc ++ (l.filter p).map F, fs)
  | [], acc, _, _ => by simp [lcL]
  | d :: ds, acc, hz, h => by
    rw [List.length_cons] at hz
    obtain ⟨fs1, fs2, h1, h2, h3, h4⟩ := h d List.mem_cons_self
    rw [List.map_cons]
    cases q : p d with
    | true =>
      obtain ⟨fs3, h5, h6⟩ := h4 q
      rw [q] at h2
      rw [lcL_turn h1 h2 h5 (by omega), h6, lcL_list e p F fs ds _ (by rw [List.length_append, List.length_singleton]; omega) fun e he => h e (List.mem_cons_of_mem _ he), List.filter_cons_of_pos q, List.map_cons, List.append_assoc]
      rfl
    | false =>
      rw [q] at h2
      rw [lcL_skip h1 h2, h3 q, lcL_list e p F fs ds _ (by omega) fun e he => h e (List.mem_cons_of_mem _ he), List.filter_cons_of_neg (by rw [q]; decide)]
theorem lcL_all {α : Type} {vs : List Nat} {g : D → Fs → Option Fs} {fe : M Rv} (e : α → D) (F : α → D) (fs : Fs) (l : List α) (hz : l.length ≤ 1000)
    (h : ∀ x ∈ l, ∃ fs1 fs3, g (e x) fs = some fs1 ∧ fD fe fs1 = some (.inr (F x), fs3) ∧ wipeF fs3 vs = fs) :
    lcL vs g tYesF fe (l.map e) [] fs = some (l.map F, fs) := by
  have := lcL_list (vs := vs) (g := g) (tt := tYesF) (fe := fe) e (fun _ => true) F fs l [] (by rw [List.length_nil]; exact szl _ (by omega)) fun d hd => by
    obtain ⟨fs1, fs3, h1, h2, h3⟩ := h d hd
    exact ⟨fs1, fs1, h1, rfl, (fun q => nomatch q), fun _ => ⟨fs3, h2, h3⟩⟩
  rw [this, List.filter_eq_self.mpr (by simp), List.nil_append]
theorem cutL_dl {α : Type} (xs : List α) : cutL xs none (some (-1)) = xs.dropLast := by
  unfold cutL
  have e1 : HT.sIx xs.length xs.length (some (-1)) = xs.length - 1 := by
    unfold HT.sIx
    show (if (-1 : Int) < 0 then _ else _) = _
    rw [if_pos (by decide)]
    omega
  rw [HT.sIx_none, e1, List.drop_zero, Nat.sub_zero, List.dropLast_eq_take]
/-- the numbers below n, as data -/
abbrev uptoD (n : Nat) : List D := (List.range n).map fun i => PyData.int ((i : Nat) : Int)
theorem uptoD_eq (n : Nat) : (upto n).map PyData.int = uptoD n := by
  unfold upto uptoD
  rw [List.map_map]
  rfl
theorem fiR1_nat {f : M (List D)} {fs fs1 : Fs} {n : Nat} (hn : n ≤ 5000) (e : f fs = some (.inr [.int (n : Nat)], fs1)) : fiR1 f fs = some (.inr (uptoD n), fs1) := by
  have h1 : smI ((n : Nat) : Int) = true := smI_of (by omega) (by omega)
  unfold fiR1
  rw [bnd_inr e]
  simp only [h1, cond_true, rng_upto, Int.toNat_natCast, uptoD_eq]
/-- the numbers from 1 up to n -/
theorem fiR2_nat {f : M (List D)} {fs fs1 : Fs} {n : Nat} (hn : n ≤ 5000) (e : f fs = some (.inr [.int 1, .int (n : Nat)], fs1)) : fiR2 f fs = some (.inr ((List.range (n - 1)).map fun i => PyData.int ((i + 1 : Nat) : Int)), fs1) := by
  have h1 : smI ((n : Nat) : Int) = true := smI_of (by omega) (by omega)
  have h2 : smI 1 = true := smI_of (by omega) (by omega)
  have h3 : ((n : Int) - 1).toNat = n - 1 := by omega
  unfold fiR2
  rw [bnd_inr e]
  simp only [h1, h2, Bool.and_self, cond_true, rng, h3]
  have : (fun i : Nat => PyData.int (1 + ((i : Nat) : Int))) = fun i : Nat => PyData.int ((i + 1 : Nat) : Int) := by
    funext i
    congr 1
    omega
  rw [this]
/-! ### begins, moves, plainly -/
abbrev bg (L : List Pr) (i : Nat) : Pr := sumP (L.take i)
def begs (L : List Pr) : List Pr := (List.range L.length).map (bg L)
theorem begs_len (L : List Pr) : (begs L).length = L.length := by unfold begs; rw [List.length_map, List.length_range]
theorem begs_get {L : List Pr} {i : Nat} (h : i < L.length) : (begs L)[i]? = some (bg L i) := by unfold begs; rw [List.getElem?_map, List.getElem?_range h]; rfl
theorem pre_all (L : List Pr) : (0, 0) :: pre (0, 0) L = (List.range (L.length + 1)).map (bg L) := by
  apply List.ext_getElem?
  intro i
  cases i with
  | zero =>
    rw [List.getElem?_map, List.getElem?_range (by omega)]
    rfl
  | succ i =>
    rw [List.getElem?_cons_succ, List.getElem?_map]
    by_cases h : i < L.length
    · rw [pre_get h, add0, List.getElem?_range (by omega)]
      rfl
    · rw [List.getElem?_eq_none (by rw [pre_len]; omega), List.getElem?_eq_none (by rw [List.length_range]; omega)]
      rfl
theorem begs_pre {L : List Pr} (h : 1 ≤ L.length) : (0, 0) :: (pre (0, 0) L).dropLast = begs L := by
  have hne : pre (0, 0) L ≠ [] := by intro q; have := pre_len (0, 0) L; rw [q] at this; simp at this; omega
  rw [← List.dropLast_cons_of_ne_nil hne, pre_all, List.range_succ, List.map_append, List.map_singleton, List.dropLast_concat]
  rfl
def lonO (L : List Pr) (O : List Int) : List Pr := O.map fun x => (L[x.toNat]?).getD (0, 0)
theorem lonO_len (L : List Pr) (O : List Int) : (lonO L O).length = O.length := by unfold lonO; rw [List.length_map]
theorem lonO_mem {L : List Pr} {O : List Int} (hp : O.Perm (upto L.length)) {p : Pr} (h : p ∈ lonO L O) : p ∈ L := by
  obtain ⟨x, hx, rfl⟩ := List.mem_map.mp h
  have := upto_mem.mp (hp.mem_iff.mp hx)
  rw [List.getElem?_eq_getElem (show x.toNat < L.length by omega)]
  exact List.getElem_mem _
/-- where a piece begins behind a go -/
def lat (L : List Pr) (O : List Int) (i : Nat) : Pr := bg (lonO L O) (O.idxOf (i : Int))
def mov (L : List Pr) (O : List Int) (i : Nat) : Pr := subP (lat L O i) (bg L i)
def movs (L : List Pr) (O : List Int) : List Pr := (List.range L.length).map (mov L O)
theorem movs_len (L : List Pr) (O : List Int) : (movs L O).length = L.length := by unfold movs; rw [List.length_map, List.length_range]
theorem movs_get {L : List Pr} {O : List Int} {i : Nat} (h : i < L.length) : (movs L O)[i]? = some (mov L O i) := by unfold movs; rw [List.getElem?_map, List.getElem?_range h]; rfl
theorem at_lon {L : List Pr} {O : List Int} (hp : O.Perm (upto L.length)) {x : Int} (hx : x ∈ O) : atI (L.map nmP) x = some (nmP ((L[x.toNat]?).getD (0, 0))) := by
  have := upto_mem.mp (hp.mem_iff.mp hx)
  rw [show x = ((x.toNat : Nat) : Int) by omega, atI_natE, List.getElem?_map, Int.toNat_natCast, List.getElem?_eq_getElem (show x.toNat < L.length by omega)]
  rfl
theorem dget_zip : ∀ {O : List Int} {B : List D} {j : Nat} {x : Int} {d : D}, O.Nodup → O[j]? = some x → B[j]? = some d → dget ((O.zip B).map fun q => (PyData.int q.1, q.2)) (.inl x) = some d
  | [], _, _, _, _, _, h, _ => by simp at h
  | _ :: _, [], _, _, _, _, _, h => by simp at h
  | y :: O, e :: B, 0, x, d, _, h1, h2 => by
    have e1 : y = x := by simpa using h1
    have e2 : e = d := by simpa using h2
    subst e1 e2
    simp [dget, eqK]
  | y :: O, e :: B, j + 1, x, d, hn, h1, h2 => by
    rw [List.nodup_cons] at hn
    have hm : O[j]? = some x := by simpa using h1
    have ne : y ≠ x := fun q => hn.1 (by rw [q]; exact List.mem_of_getElem? hm)
    have ih := dget_zip hn.2 hm (show B[j]? = some d by simpa using h2)
    unfold dget at ih ⊢
    rw [List.zip_cons_cons, List.map_cons, List.find?_cons]
    have : eqK (PyData.int y) (.inl x) = false := by simp [eqK, ne]
    rw [this]
    exact ih
theorem dput_new {ds : List (D × D)} {x : Int} {d : D} (h : ∀ q ∈ ds, q.1 ≠ .int x) : dput ds (.inl x) d = ds ++ [(.int x, d)] := by
  unfold dput
  have : (ds.any fun p => eqK p.1 (.inl x)) = false := by
    rw [List.any_eq_false]
    intro q hq
    have := h q hq
    cases e : q.1 with
    | int i =>
      rw [e] at this
      have : i ≠ x := fun z => this (by rw [z])
      simp [eqK, this]
    | _ => simp [eqK]
  rw [this, if_neg Bool.false_ne_true]
  rfl
theorem lat_dg {L : List Pr} {O : List Int} (hp : O.Perm (upto L.length)) {i : Nat} (hi : i < L.length) : dget ((O.zip ((begs (lonO L O)).map nmP)).map fun q => (PyData.int q.1, q.2)) (.inl (i : Int)) = some (nmP (lat L O i)) := by
  have hm : (i : Int) ∈ O := hp.mem_iff.mpr (upto_mem.mpr (by omega))
  have hlen : O.length = L.length := by rw [hp.length_eq, upto_length]
  have hl := List.idxOf_lt_length_iff.mpr hm
  refine dget_zip (hp.nodup_iff.mpr (upto_nodup _)) (getElem_idxOf hm) ?_
  rw [List.getElem?_map, begs_get (by rw [lonO_len]; exact hl)]
  rfl
theorem BtP.bg {b : Nat} {L : List Pr} (h1 : 1 ≤ b) (hb : ∀ p ∈ L, BtP b p) (i : Nat) : BtP (b + L.length) (bg L i) := by
  refine BtP.mono (sum_bits (k := b) h1 fun p hp => hb p (List.mem_of_mem_take hp)) ?_
  rw [List.length_take]
  omega
theorem BtP.lat {b : Nat} {L : List Pr} {O : List Int} (hp : O.Perm (upto L.length)) (h1 : 1 ≤ b) (hb : ∀ p ∈ L, BtP b p) (i : Nat) : BtP (b + L.length) (lat L O i) := by
  have hlen : O.length = L.length := by rw [hp.length_eq, upto_length]
  have := BtP.bg (L := lonO L O) h1 (fun p hp' => hb p (lonO_mem hp hp')) (O.idxOf (i : Int))
  rw [lonO_len, hlen] at this
  exact this
theorem BtP.mov {b : Nat} {L : List Pr} {O : List Int} (hp : O.Perm (upto L.length)) (h1 : 1 ≤ b) (hb : ∀ p ∈ L, BtP b p) (i : Nat) : BtP (b + L.length + 1) (mov L O i) := BtP.sub (BtP.lat hp h1 hb i) (BtP.bg h1 hb i)
theorem nat_at {L : List Pr} {F : Nat → Pr} {i : Nat} (h : L[i]? = some (F i)) : atI (L.map nmP) ((i : Nat) : Int) = some (nmP (F i)) := by rw [atI_natE, List.getElem?_map, h]; rfl
/-! ### pieces, goes -/
structure Okp (r : Int) (b : Nat) (L : List Pr) (O : List Int) : Prop where
  hr : okRoot r
  hp : O.Perm (upto L.length)
  h0 : 1 ≤ L.length
  h1 : 1 ≤ b
  hl : b + L.length ≤ 300
  bt : ∀ p ∈ L, BtP b p
  z : ∀ p ∈ L, Zp r p
  pos : ∀ p ∈ L, posP r p
theorem good_pos {r : Int} {p : Pr} (hr : okRoot r) (h : GoodL r (nmP p)) : posP r p := by
  obtain ⟨a, b, c, e, n⟩ := nm_ex p.1 p.2
  have e' : nmP p = tup3 a b c := e
  obtain ⟨a', b', c', e2, h1, h2, h3, h4, h5, h6, h7, h8, h9, h10⟩ := h
  obtain ⟨rfl, rfl, rfl⟩ := tup3_inj (e'.symm.trans e2)
  have hs := negV_scale (r := r) n.pos n.h1 n.h2
  rw [h7] at hs
  have hp := n.pos
  have h1' := n.h1
  have h2' := n.h2
  have nz : ¬ (p.1 = 0 ∧ p.2 = 0) := by
    rintro ⟨z1, z2⟩
    rw [z1, Int.zero_mul] at h1'
    rw [z2, Int.zero_mul] at h2'
    omega
  have z0 : r = 0 → p.2 = 0 := fun h0 => by
    have hb := h9 h0
    rw [hb, Int.zero_mul] at h2'
    rcases Int.mul_eq_zero.mp h2'.symm with q | q
    · exact q
    · omega
  unfold posP ltP
  show negV r (0 - p.1) (0 - p.2) = true
  rw [Int.zero_sub, Int.zero_sub]
  rcases neg_total hr z0 nz with k | k
  · rw [k] at hs; cases hs
  · exact k
theorem zp_sum {r : Int} : ∀ {L : List Pr}, (∀ p ∈ L, Zp r p) → Zp r (sumP L)
  | [], _ => fun _ => rfl
  | p :: L, h => fun h0 => by
    have h1 := h p List.mem_cons_self h0
    have h2 := zp_sum (L := L) (fun q hq => h q (List.mem_cons_of_mem _ hq)) h0
    show p.2 + (sumP L).2 = 0
    omega
theorem nn_sum {r : Int} (hr : 0 ≤ r) : ∀ {L : List Pr}, (∀ p ∈ L, posP r p) → L ≠ [] → posP r (sumP L)
  | [], _, h => absurd rfl h
  | [p], h, _ => by
    have h1 := h p (by simp)
    have : sumP [p] = p := Prod.ext (by show p.1 + 0 = _; omega) (by show p.2 + 0 = _; omega)
    rw [this]; exact h1
  | p :: q :: L, h, _ => by
    have h1 := h p List.mem_cons_self
    have h2 := nn_sum (L := q :: L) hr (fun s hs => h s (List.mem_cons_of_mem _ hs)) (by simp)
    have e : sumP (p :: q :: L) = addP p (sumP (q :: L)) := rfl
    rw [e]
    exact lt_trans hr h1 (lt_step h2)
theorem nn_bg {r : Int} (hr : 0 ≤ r) {L : List Pr} (h : ∀ p ∈ L, posP r p) (i : Nat) : leP r (0, 0) (bg L i) := by
  by_cases e : L.take i = []
  · show ltP r (sumP (L.take i)) (0, 0) = false
    rw [e]; exact lt_irr r _
  · exact lt_asymm hr (nn_sum hr (fun p hp => h p (List.mem_of_mem_take hp)) e)
/-- the piece in which a point lies -/
def pcF (r : Int) (L : List Pr) (x : Pr) (m : Nat) : List Nat := (List.range m).filter fun i => !ltP r x (bg L i)
def pc (r : Int) (L : List Pr) (x : Pr) : Nat := ((pcF r L x L.length).getLast?).getD 0
theorem pcF_succ (r : Int) (L : List Pr) (x : Pr) (m : Nat) : pcF r L x (m + 1) = pcF r L x m ++ (if ltP r x (bg L m) = true then [] else [m]) := by
  unfold pcF
  rw [List.range_succ, List.filter_append]
  congr 1
  cases h : ltP r x (bg L m) with
  | true => rw [if_pos rfl, List.filter_cons_of_neg (by rw [h]; decide), List.filter_nil]
  | false => rw [if_neg Bool.false_ne_true, List.filter_cons_of_pos (by rw [h]; rfl), List.filter_nil]
theorem pcF_rising (r : Int) (L : List Pr) (x : Pr) (m : Nat) : (pcF r L x m).Pairwise (· < ·) := (List.pairwise_lt_range (n := m)).filter _
section
variable {r : Int} {b k : Nat} {L : List Pr} {O : List Int} {x : Pr}
theorem pc_spec (h0 : 1 ≤ L.length) (hx : leP r (0, 0) x) : pc r L x < L.length ∧ leP r (bg L (pc r L x)) x ∧ ∀ i, pc r L x < i → i < L.length → ltP r x (bg L i) = true := by
  have hm0 : 0 ∈ pcF r L x L.length := by
    unfold pcF
    rw [List.mem_filter, List.mem_range]
    refine ⟨h0, ?_⟩
    have : bg L 0 = (0, 0) := rfl
    rw [this]
    show (!ltP r x (0, 0)) = true
    rw [show ltP r x (0, 0) = false from hx]; rfl
  obtain ⟨y, hy⟩ : ∃ y, (pcF r L x L.length).getLast? = some y := by
    cases h : (pcF r L x L.length).getLast? with
    | none => rw [List.getLast?_eq_none_iff] at h; rw [h] at hm0; cases hm0
    | some y => exact ⟨y, rfl⟩
  have hpc : pc r L x = y := by unfold pc; rw [hy]; rfl
  have hmy := List.mem_of_getLast? hy
  rw [hpc]
  unfold pcF at hmy
  rw [List.mem_filter, List.mem_range] at hmy
  refine ⟨hmy.1, by have := hmy.2; simpa using this, fun i hi hl => ?_⟩
  cases e : ltP r x (bg L i) with
  | true => rfl
  | false =>
    exfalso
    have hm : i ∈ pcF r L x L.length := by
      unfold pcF
      rw [List.mem_filter, List.mem_range]
      exact ⟨hl, by rw [e]; rfl⟩
    have hs := pcF_rising r L x L.length
    have hne : pcF r L x L.length ≠ [] := by intro q; rw [q] at hm; cases hm
    have hd := List.dropLast_concat_getLast hne
    have hl2 : (pcF r L x L.length).getLast hne = y := by
      rw [List.getLast?_eq_some_getLast hne] at hy
      exact Option.some.inj hy
    rw [hl2] at hd
    rw [← hd] at hs hm
    rw [List.pairwise_append] at hs
    rcases List.mem_append.mp hm with q | q
    · have := hs.2.2 i q y (by simp)
      omega
    · have := List.mem_singleton.mp q
      omega
/-! goes -/
def T (r : Int) (L : List Pr) (O : List Int) (x : Pr) : Pr := addP x (mov L O (pc r L x))
def orb (r : Int) (L : List Pr) (O : List Int) (x : Pr) : Nat → Pr
  | 0 => x
  | k + 1 => T r L O (orb r L O x k)
theorem zp_bg (z : ∀ p ∈ L, Zp r p) (i : Nat) : Zp r (bg L i) := zp_sum fun p hp => z p (List.mem_of_mem_take hp)
theorem zp_lat (hp : O.Perm (upto L.length)) (z : ∀ p ∈ L, Zp r p) (i : Nat) : Zp r (lat L O i) := zp_bg (L := lonO L O) (fun p hp' => z p (lonO_mem hp hp')) _
theorem zp_mov (hp : O.Perm (upto L.length)) (z : ∀ p ∈ L, Zp r p) (i : Nat) : Zp r (mov L O i) := fun h0 => by
  have h1 := zp_lat hp z i h0
  have h2 := zp_bg z i h0
  show (lat L O i).2 - (bg L i).2 = 0
  omega
theorem zp_add {p q : Pr} (h1 : Zp r p) (h2 : Zp r q) : Zp r (addP p q) := fun h0 => by
  have := h1 h0
  have := h2 h0
  show p.2 + q.2 = 0
  omega
theorem nn_lat (hr : 0 ≤ r) (hp : O.Perm (upto L.length)) (h : ∀ p ∈ L, posP r p) (i : Nat) : leP r (0, 0) (lat L O i) := nn_bg hr (L := lonO L O) (fun p hp' => h p (lonO_mem hp hp')) _
theorem addsub (p q s : Pr) : addP p (subP q s) = addP (subP q s) p ∧ addP (subP q s) s = q := by
  unfold addP subP
  exact ⟨Prod.ext (by show p.1 + (q.1 - s.1) = q.1 - s.1 + p.1; omega) (by show p.2 + (q.2 - s.2) = q.2 - s.2 + p.2; omega), Prod.ext (by show q.1 - s.1 + s.1 = q.1; omega) (by show q.2 - s.2 + s.2 = q.2; omega)⟩
theorem T_nn (K : Okp r b L O) (hx : leP r (0, 0) x) (zx : Zp r x) : leP r (0, 0) (T r L O x) := by
  obtain ⟨_, h2, _⟩ := pc_spec (r := r) (L := L) (x := x) K.h0 hx
  unfold T mov
  rw [(addsub x (lat L O (pc r L x)) (bg L (pc r L x))).1]
  refine le_trans K.hr (q := lat L O (pc r L x)) (fun _ => rfl) (zp_lat K.hp K.z _) (nn_lat K.hr.nn K.hp K.pos _) ?_
  have e := (addsub x (lat L O (pc r L x)) (bg L (pc r L x))).2
  show ltP r _ (lat L O (pc r L x)) = false
  conv => lhs; rhs; rw [← e]
  rw [lt_addl]
  exact h2
theorem T_z (K : Okp r b L O) (zx : Zp r x) : Zp r (T r L O x) := zp_add zx (zp_mov K.hp K.z _)
theorem orb_z (K : Okp r b L O) (zx : Zp r x) : ∀ m, Zp r (orb r L O x m)
  | 0 => zx
  | m + 1 => T_z K (orb_z K zx m)
theorem orb_nn (K : Okp r b L O) (hx : leP r (0, 0) x) (zx : Zp r x) : ∀ m, leP r (0, 0) (orb r L O x m)
  | 0 => hx
  | m + 1 => T_nn K (orb_nn K hx zx m) (orb_z K zx m)
theorem T_bt (K : Okp r b L O) (hk : b + L.length + 1 ≤ k) (bx : BtP k x) : BtP (k + 1) (T r L O x) := BtP.add bx (BtP.mov K.hp K.h1 K.bt _) hk
theorem orb_bt (K : Okp r b L O) (hk : b + L.length + 1 ≤ k) (bx : BtP k x) : ∀ m, BtP (k + m) (orb r L O x m)
  | 0 => bx
  | m + 1 => T_bt K (Nat.le_trans hk (Nat.le_add_right k m)) (orb_bt K hk bx m)
end
/-! ### begins rise -/
theorem sumP_app : ∀ (A B : List Pr), sumP (A ++ B) = addP (sumP A) (sumP B)
  | [], B => by rw [List.nil_append]; exact (add0 _).symm
  | p :: A, B => by
    show addP p (sumP (A ++ B)) = addP (addP p (sumP A)) (sumP B)
    rw [sumP_app A B]
    unfold addP
    exact Prod.ext (by show p.1 + ((sumP A).1 + (sumP B).1) = p.1 + (sumP A).1 + (sumP B).1; omega) (by show p.2 + ((sumP A).2 + (sumP B).2) = p.2 + (sumP A).2 + (sumP B).2; omega)
theorem sumP_one (p : Pr) : sumP [p] = p := Prod.ext (by show p.1 + 0 = _; omega) (by show p.2 + 0 = _; omega)
theorem bg_succ {L : List Pr} {i : Nat} {p : Pr} (h : L[i]? = some p) : bg L (i + 1) = addP (bg L i) p := by
  obtain ⟨hi, e⟩ := List.getElem?_eq_some_iff.mp h
  show sumP (L.take (i + 1)) = _
  rw [List.take_succ, h, sumP_app]
  show addP _ (sumP [p]) = _
  rw [sumP_one]
theorem bg_all {L : List Pr} {i : Nat} (h : L.length ≤ i) : bg L i = sumP L := by show sumP (L.take i) = _; rw [List.take_of_length_le h]
section
variable {r : Int} {b k : Nat} {L : List Pr} {O : List Int} {x : Pr}
theorem bg_mono (hr : okRoot r) (z : ∀ p ∈ L, Zp r p) (pos : ∀ p ∈ L, posP r p) {i : Nat} : ∀ {j : Nat}, i ≤ j → leP r (bg L i) (bg L j) := by
  intro j hj
  induction j with
  | zero => rw [show i = 0 by omega]; exact le_refl r _
  | succ j ih =>
    by_cases h : i ≤ j
    · refine le_trans hr (zp_bg z i) (zp_bg z j) (ih h) ?_
      by_cases hl : j < L.length
      · have e : L[j]? = some L[j] := List.getElem?_eq_getElem hl
        rw [bg_succ e]
        exact le_of_lt hr.nn (lt_step (pos _ (List.getElem_mem hl)))
      · rw [bg_all (i := j) (by omega), bg_all (i := j + 1) (by omega)]
        exact le_refl r _
    · rw [show i = j + 1 by omega]; exact le_refl r _
/-- the piece of a point, by its begin and its end -/
theorem pc_eq (hr : okRoot r) (z : ∀ p ∈ L, Zp r p) (pos : ∀ p ∈ L, posP r p) (zx : Zp r x) {i : Nat} (hi : i < L.length) (h1 : leP r (bg L i) x) (h2 : ltP r x (bg L (i + 1)) = true) : pc r L x = i := by
  have hx : leP r (0, 0) x := le_trans hr (fun _ => rfl) (zp_bg z i) (nn_bg hr.nn pos i) h1
  obtain ⟨a, c, d⟩ := pc_spec (r := r) (L := L) (x := x) (by omega) hx
  rcases Nat.lt_trichotomy (pc r L x) i with q | q | q
  · have := d i q hi
    rw [show ltP r x (bg L i) = false from h1] at this
    cases this
  · exact q
  · have := lt_le_trans hr (zp_bg z (i + 1)) (zp_bg z (pc r L x)) h2 (bg_mono hr z pos (show i + 1 ≤ pc r L x from q))
    rw [show ltP r x (bg L (pc r L x)) = false from c] at this
    cases this
theorem pc_end (h0 : 1 ≤ L.length) (hx : leP r (0, 0) x) (hw : ltP r x (sumP L) = true) : ltP r x (bg L (pc r L x + 1)) = true := by
  obtain ⟨a, c, d⟩ := pc_spec (r := r) (L := L) (x := x) h0 hx
  by_cases h : pc r L x + 1 < L.length
  · exact d _ (Nat.lt_succ_self _) h
  · rw [bg_all (by omega)]; exact hw
/-! where pieces lie, by what lies ahead -/
theorem lonO_app (L : List Pr) (P Q : List Int) : lonO L (P ++ Q) = lonO L P ++ lonO L Q := by unfold lonO; rw [List.map_append]
theorem idx_split {P Q : List Int} {y : Int} (hn : (P ++ y :: Q).Nodup) : (P ++ y :: Q).idxOf y = P.length := idxOf_at hn (by simp)
theorem lat_split {P Q : List Int} {i : Nat} (hO : O = P ++ (i : Int) :: Q) (hn : O.Nodup) : lat L O i = sumP (lonO L P) := by
  unfold lat
  rw [hO] at hn ⊢
  rw [idx_split hn]
  show sumP ((lonO L (P ++ (i : Int) :: Q)).take P.length) = _
  rw [lonO_app, List.take_left' (lonO_len L P)]
theorem lonO_all {L : List Pr} {O : List Int} (hp : O.Perm (upto L.length)) : (lonO L O).Perm L := by
  have e : lonO L (upto L.length) = L := by
    apply List.ext_getElem?
    intro i
    unfold lonO
    rw [List.getElem?_map]
    by_cases h : i < L.length
    · rw [upto_get h, List.getElem?_eq_getElem h]
      show some ((L[((i : Nat) : Int).toNat]?).getD (0, 0)) = _
      rw [Int.toNat_natCast, List.getElem?_eq_getElem h]
      rfl
    · rw [List.getElem?_eq_none (by rw [upto_length]; omega), List.getElem?_eq_none (by omega)]
      rfl
  conv => rhs; rw [← e]
  exact hp.map _
theorem lonO_one (L : List Pr) (i : Nat) {p : Pr} (h : L[i]? = some p) : lonO L [(i : Int)] = [p] := by
  unfold lonO
  rw [List.map_singleton, Int.toNat_natCast, h]
  rfl
theorem lon_pos (hp : O.Perm (upto L.length)) {P Q : List Int} (hO : O = P ++ Q) : ∀ p ∈ lonO L P, p ∈ L := fun p h => lonO_mem hp (by rw [hO, lonO_app]; exact List.mem_append_left _ h)
theorem split_of (hp : O.Perm (upto L.length)) {i : Nat} (hi : i < L.length) : ∃ P Q : List Int, O = P ++ (i : Int) :: Q := List.append_of_mem (hp.mem_iff.mpr (upto_mem.mpr (by omega)))
/-- goes stay below the whole -/
theorem T_lt (K : Okp r b L O) (hx : leP r (0, 0) x) (zx : Zp r x) (hw : ltP r x (sumP L) = true) : ltP r (T r L O x) (sumP L) = true := by
  obtain ⟨a, c, _⟩ := pc_spec (r := r) (L := L) (x := x) K.h0 hx
  have he := pc_end K.h0 hx hw
  have hp : L[pc r L x]? = some L[pc r L x] := List.getElem?_eq_getElem a
  generalize hi : pc r L x = i at *
  generalize L[i] = p at *
  rw [bg_succ hp] at he
  obtain ⟨P, Q, hO⟩ := split_of K.hp a
  have hn : O.Nodup := K.hp.nodup_iff.mpr (upto_nodup _)
  have hl := lat_split (L := L) hO hn
  have hs : sumP L = addP (addP (lat L O i) p) (sumP (lonO L Q)) := by
    rw [hl, ← sumP_perm (lonO_all K.hp), hO, lonO_app, sumP_app]
    have : lonO L ((i : Int) :: Q) = p :: lonO L Q := by
      have := lonO_one L i hp
      show ((L[((i : Nat) : Int).toNat]?).getD (0, 0)) :: lonO L Q = _
      rw [Int.toNat_natCast, hp]; rfl
    rw [this]
    unfold addP
    exact Prod.ext (by show (sumP (lonO L P)).1 + (p.1 + (sumP (lonO L Q)).1) = (sumP (lonO L P)).1 + p.1 + (sumP (lonO L Q)).1; omega) (by show (sumP (lonO L P)).2 + (p.2 + (sumP (lonO L Q)).2) = (sumP (lonO L P)).2 + p.2 + (sumP (lonO L Q)).2; omega)
  have h1 : ltP r (T r L O x) (addP (lat L O i) p) = true := by
    unfold T mov
    rw [hi]
    rw [(addsub x (lat L O i) (bg L i)).1]
    have e : addP (lat L O i) p = addP (subP (lat L O i) (bg L i)) (addP (bg L i) p) := by
      unfold addP subP
      exact Prod.ext (by show (lat L O i).1 + p.1 = (lat L O i).1 - (bg L i).1 + ((bg L i).1 + p.1); omega) (by show (lat L O i).2 + p.2 = (lat L O i).2 - (bg L i).2 + ((bg L i).2 + p.2); omega)
    rw [e, lt_addl]
    exact he
  have zl := zp_lat K.hp K.z i
  have zpp := K.z p (List.mem_of_getElem? hp)
  have zq : Zp r (sumP (lonO L Q)) := zp_sum fun s hs => K.z s (lonO_mem K.hp (by rw [hO, lonO_app]; exact List.mem_append_right _ (List.mem_cons_of_mem _ hs)))
  refine lt_le_trans K.hr (zp_add zl zpp) (by rw [hs]; exact zp_add (zp_add zl zpp) zq) h1 ?_
  rw [hs]
  by_cases hq : lonO L Q = []
  · rw [hq]
    have : addP (addP (lat L O i) p) (sumP []) = addP (lat L O i) p := addS0 _
    rw [this]; exact le_refl r _
  · exact le_of_lt K.hr.nn (lt_step (nn_sum K.hr.nn (fun s hs => K.pos s (lonO_mem K.hp (by rw [hO, lonO_app]; exact List.mem_append_right _ (List.mem_cons_of_mem _ hs)))) hq))
end
/-! ### rows of a step of sort 1 -/
def rowf (n k j : Nat) : Nat := if j ≤ k then j else if j = n - 1 then k + 1 else j + 1
def ahf (n k j : Nat) : Nat := if j ≤ k then j else if j = k + 1 then n - 1 else j - 1
theorem row_ah {n k j : Nat} (h : k + 1 < n) (hj : j < n) : rowf n k (ahf n k j) = j ∧ ahf n k (rowf n k j) = j ∧ ahf n k j < n ∧ rowf n k j < n := by
  unfold rowf ahf
  refine ⟨?_, ?_, ?_, ?_⟩ <;> (repeat' split) <;> omega
abbrev rowL (n k : Nat) : List Int := upto (k + 1) ++ (upto n).drop (k + 2) ++ [((k + 1 : Nat) : Int)]
abbrev ahL (n k : Nat) : List Int := upto (k + 1) ++ [(n : Int) - 1] ++ (upto (n - 1)).drop (k + 1)
theorem rowL_get {n k j : Nat} (h : k + 1 < n) (hj : j < n) : (rowL n k)[j]? = some ((rowf n k j : Nat) : Int) := by
  unfold rowL rowf
  have hl : (upto (k + 1) ++ (upto n).drop (k + 2)).length = n - 1 := by rw [List.length_append, upto_length, List.length_drop, upto_length]; omega
  by_cases h1 : j < n - 1
  · rw [List.getElem?_append_left (by omega)]
    by_cases h2 : j ≤ k
    · rw [List.getElem?_append_left (by rw [upto_length]; omega), upto_get (by omega), if_pos h2]
    · rw [List.getElem?_append_right (by rw [upto_length]; omega), upto_length, List.getElem?_drop, upto_get (by omega), if_neg h2, if_neg (by omega)]
      congr 2
      omega
  · rw [List.getElem?_append_right (by omega), hl, show j - (n - 1) = 0 by omega, if_neg (by omega), if_pos (by omega)]
    rfl
theorem ahL_get {n k j : Nat} (h : k + 1 < n) (hj : j < n) : (ahL n k)[j]? = some ((ahf n k j : Nat) : Int) := by
  unfold ahL ahf
  rw [List.append_assoc]
  by_cases h2 : j ≤ k
  · rw [List.getElem?_append_left (by rw [upto_length]; omega), upto_get (by omega), if_pos h2]
  · rw [List.getElem?_append_right (by rw [upto_length]; omega), upto_length, if_neg h2]
    by_cases h3 : j = k + 1
    · rw [show j - (k + 1) = 0 by omega, if_pos h3]
      show some ((n : Int) - 1) = _
      congr 1
      omega
    · rw [show j - (k + 1) = (j - (k + 2)) + 1 by omega, if_neg h3]
      show ((upto (n - 1)).drop (k + 1))[j - (k + 2)]? = _
      rw [List.getElem?_drop, upto_get (by omega)]
      congr 2
      omega
theorem perm_of_get {n : Nat} {L : List Int} {f g : Nat → Nat} (hl : L.length = n) (h : ∀ j, j < n → L[j]? = some ((f j : Nat) : Int)) (h2 : ∀ j, j < n → f j < n ∧ g j < n ∧ f (g j) = j ∧ g (f j) = j) : L.Perm (upto n) := by
  refine (perm_of_sub (upto_nodup n) (fun x hx => ?_) (by rw [upto_length, hl])).symm
  have hm := upto_mem.mp hx
  obtain ⟨_, a2, a3, _⟩ := h2 x.toNat (by omega)
  have := h (g x.toNat) a2
  rw [a3] at this
  have ex : ((x.toNat : Nat) : Int) = x := by omega
  rw [ex] at this
  exact List.mem_of_getElem? this
theorem rowL_perm {n k : Nat} (h : k + 1 < n) : (rowL n k).Perm (upto n) := by
  refine perm_of_get (f := rowf n k) (g := ahf n k) ?_ (fun j hj => rowL_get h hj) fun j hj => ?_
  · rw [List.length_append, List.length_append, upto_length, List.length_drop, upto_length, List.length_singleton]; omega
  · obtain ⟨a, b, c, d⟩ := row_ah h hj
    exact ⟨d, c, a, b⟩
theorem ahL_perm {n k : Nat} (h : k + 1 < n) : (ahL n k).Perm (upto n) := by
  refine perm_of_get (f := ahf n k) (g := rowf n k) ?_ (fun j hj => ahL_get h hj) fun j hj => ?_
  · rw [List.length_append, List.length_append, upto_length, List.length_drop, upto_length, List.length_singleton]; omega
  · obtain ⟨a, b, c, d⟩ := row_ah h hj
    exact ⟨c, d, b, a⟩
theorem rowL_idx {n k : Nat} {x : Int} (h : k + 1 < n) (hx : x ∈ upto n) : (rowL n k).idxOf x = ahf n k x.toNat := by
  have hm := upto_mem.mp hx
  obtain ⟨a, b, c, d⟩ := row_ah (j := x.toNat) h (by omega)
  refine idxOf_at ((rowL_perm h).nodup_iff.mpr (upto_nodup n)) ?_
  rw [rowL_get h c, a]
  congr 1
  omega
theorem ahL_idx {n k y : Nat} (h : k + 1 < n) (hy : y < n) : (ahL n k).idxOf ((y : Nat) : Int) = rowf n k y := by
  obtain ⟨a, b, c, d⟩ := row_ah (j := y) h hy
  refine idxOf_at ((ahL_perm h).nodup_iff.mpr (upto_nodup n)) ?_
  rw [ahL_get h d, b]
/-! ### steps -/
theorem even_eq {r : Int} {L : List Pr} {O : List Int} {p q : Pr} {b : Nat} (h1 : L.getLast? = some p) (h2 : O.getLast? = some (b : Int)) (h3 : L[b]? = some q) : d_p_is_even [.dat (chN r L O)] = some (.inr (false, .bool (decide (p = q))), [.no]) := by
  have e1 : atI (L.map nmP) (-1) = some (nmP p) := atI_last (by rw [List.getLast?_map, h1]; rfl)
  have e2 := atI_last (last_map h2)
  have e3 : atI (L.map nmP) ((b : Nat) : Int) = some (nmP q) := by rw [atI_natE, List.getElem?_map, h3]; rfl
  have e4 := hEq_nm p q
  show d_p_is_even [.dat (.tuple [.int r, .tuple (L.map nmP), .tuple (O.map PyData.int)])] = _
  generalize nmP p = P at *
  generalize nmP q = Q at *
  generalize L.map nmP = LL at *
  simp only [d_p_is_even, mkFn, sCons, sSet, sPar, sUnp, sIf, sRet, sRetN, sDrop, sNil, sBrk, sCnt, bndS, bnd, rt, opt, fVar, fVal, fBin, fUn, rd1, rd2, Rv.rd, Sl.rd, fD, fzM, Rv.fz, fCons, fNil, dCons, dNil, aCons, aNil, aBoxN, aBox, fCall, resolve, boxes, bxpos, wb, fNm, rdAll, fTup, fLst, hAdd, hSub, hInt2, hMulL, hLt, hLe, hGt, hGe, hNeg, hAbs, hLen, hInt1, hMax2, hMin2, hIx, fSl, oNone, oSome, hSl, fB, toB, fAnd, fOr, fNot, fAndV, fOrV, fNotV, fChain, kName, kTup, kCons, kNil, slOk, sStore, fMt, mtGo, hApp, hFdiv, hMod, hDivmod, outs, List.length_cons, List.length_nil, List.getElem?_cons_zero, List.getElem?_cons_succ, List.getElem?_nil, List.set_cons_zero, List.set_cons_succ, List.replicate_succ, List.replicate_zero, List.cons_append, List.nil_append, Option.bind_some, Option.map_some, cond_true, cond_false, ite_true, ite_false, Nat.reduceAdd, Nat.reduceSub, Nat.reduceEqDiff, Nat.reduceLeDiff, if_true, if_false, reduceIte, atI_n0, atI_n1, atI_n2, atI_n3, ixN_10, ixN_20, ixN_21, hEq_int, hNe_int, Bool.not_true, decide_true, decide_false, hTuple, sTryK, sRaise, Bool.false_eq_true, Bool.not_false, sz0, sz1, sz2, sz3, sz4, sz5, sz6, sz7, sz8, e1, e2, e3, e4]
theorem put_eq {row A B : List Int} {thing other : Int} (S : D) (hS : S = .list (row.map PyData.int) ∨ S = .tuple (row.map PyData.int)) (hn : row.Nodup) (hl : row.length ≤ 400) (hf : row.filter (fun x => !decide (x = thing)) = A ++ other :: B) :
    d_p_put_behind [.dat S, .dat (.int thing), .dat (.int other)] = some (.inr (true, .list ((A ++ other :: thing :: B).map PyData.int)), [.no, .no, .no]) := by
  have hlen : (A ++ other :: B).length ≤ 400 := by rw [← hf]; exact Nat.le_trans (List.length_filter_le _ _) hl
  have hn2 : (A ++ other :: B).Nodup := by rw [← hf]; exact hn.filter _
  have er : fiS (fD (fVar 0)) [.dat S, .dat (.int thing), .dat (.int other), .no, .no, .no] = some (.inr (row.map PyData.int), [.dat S, .dat (.int thing), .dat (.int other), .no, .no, .no]) := by
    rcases hS with rfl | rfl <;> simp only [fiS, asS, mkFn, sCons, sSet, sPar, sUnp, sIf, sRet, sRetN, sDrop, sNil, sBrk, sCnt, bndS, bnd, rt, opt, fVar, fVal, fBin, fUn, rd1, rd2, Rv.rd, Sl.rd, fD, fzM, Rv.fz, fCons, fNil, dCons, dNil, aCons, aNil, aBoxN, aBox, fCall, resolve, boxes, bxpos, wb, fNm, rdAll, fTup, fLst, hAdd, hSub, hInt2, hMulL, hLt, hLe, hGt, hGe, hNeg, hAbs, hLen, hInt1, hMax2, hMin2, hIx, fSl, oNone, oSome, hSl, fB, toB, fAnd, fOr, fNot, fAndV, fOrV, fNotV, fChain, kName, kTup, kCons, kNil, slOk, sStore, fMt, mtGo, hApp, hFdiv, hMod, hDivmod, outs, List.length_cons, List.length_nil, List.getElem?_cons_zero, List.getElem?_cons_succ, List.getElem?_nil, List.set_cons_zero, List.set_cons_succ, List.replicate_succ, List.replicate_zero, List.cons_append, List.nil_append, Option.bind_some, Option.map_some, cond_true, cond_false, ite_true, ite_false, Nat.reduceAdd, Nat.reduceSub, Nat.reduceEqDiff, Nat.reduceLeDiff, if_true, if_false, reduceIte, atI_n0, atI_n1, atI_n2, atI_n3, ixN_10, ixN_20, ixN_21, hEq_int, hNe_int, Bool.not_true, decide_true, decide_false, hTuple, sTryK, sRaise, Bool.false_eq_true, Bool.not_false, sz0, sz1, sz2, sz3, sz4, sz5, sz6, sz7, sz8]
  have el := lcL_filter (vs := [5]) (g := kName 5) (tt := fB (fBin hNe (fVar 5) (fVar 1))) (fe := fVar 5) (neD thing) id [.dat S, .dat (.int thing), .dat (.int other), .no, .no, .no] (row.map PyData.int) [] (len900 row (by omega)) (by
    intro d hd
    obtain ⟨x, hx, rfl⟩ := List.mem_map.mp hd
    refine ⟨[.dat S, .dat (.int thing), .dat (.int other), .no, .no, .dat (.int x)], [.dat S, .dat (.int thing), .dat (.int other), .no, .no, .dat (.int x)], rfl, by simp only [mkFn, sCons, sSet, sPar, sUnp, sIf, sRet, sRetN, sDrop, sNil, sBrk, sCnt, bndS, bnd, rt, opt, fVar, fVal, fBin, fUn, rd1, rd2, Rv.rd, Sl.rd, fD, fzM, Rv.fz, fCons, fNil, dCons, dNil, aCons, aNil, aBoxN, aBox, fCall, resolve, boxes, bxpos, wb, fNm, rdAll, fTup, fLst, hAdd, hSub, hInt2, hMulL, hLt, hLe, hGt, hGe, hNeg, hAbs, hLen, hInt1, hMax2, hMin2, hIx, fSl, oNone, oSome, hSl, fB, toB, fAnd, fOr, fNot, fAndV, fOrV, fNotV, fChain, kName, kTup, kCons, kNil, slOk, sStore, fMt, mtGo, hApp, hFdiv, hMod, hDivmod, outs, List.length_cons, List.length_nil, List.getElem?_cons_zero, List.getElem?_cons_succ, List.getElem?_nil, List.set_cons_zero, List.set_cons_succ, List.replicate_succ, List.replicate_zero, List.cons_append, List.nil_append, Option.bind_some, Option.map_some, cond_true, cond_false, ite_true, ite_false, Nat.reduceAdd, Nat.reduceSub, Nat.reduceEqDiff, Nat.reduceLeDiff, if_true, if_false, reduceIte, atI_n0, atI_n1, atI_n2, atI_n3, ixN_10, ixN_20, ixN_21, hEq_int, hNe_int, Bool.not_true, decide_true, decide_false, hTuple, sTryK, sRaise, Bool.false_eq_true, Bool.not_false, sz0, sz1, sz2, sz3, sz4, sz5, sz6, sz7, sz8, neD], fun _ => rfl, fun _ => ⟨_, rfl, rfl⟩⟩)
  rw [List.nil_append, fltI, hf] at el
  have ec := fLc_of er el
  generalize hM : A ++ other :: B = M at *
  have eix := fIndex_list (f := fVar 3) (g := fVar 2) (fs := [.dat S, .dat (.int thing), .dat (.int other), .own 0 (.list (M.map PyData.int)), .no, .no]) (x := .slot 3) (y := .val (.int other)) rfl rfl rfl rfl rfl hn2 (j := A.length) (by rw [← hM]; simp)
  unfold d_p_put_behind
  have ek : ((A.length : Nat) : Int) + 1 = ((A.length + 1 : Nat) : Int) := by omega
  refine mkFn_ret (fs := [.dat S, .dat (.int thing), .dat (.int other), .own 0 (.list (M.map PyData.int)), .dat (.int ((A.length + 1 : Nat) : Int)), .no]) rfl ?_
  show sCons _ _ [.dat S, .dat (.int thing), .dat (.int other), .no, .no, .no] = _
  generalize fLc [5] (fiS (fD (fVar 0))) (kName 5) (fB (fBin hNe (fVar 5) (fVar 1))) (fVar 5) = E at ec ⊢
  rw [sCons_nx (fs1 := [.dat S, .dat (.int thing), .dat (.int other), .own 0 (.list (M.map PyData.int)), .no, .no]) (by simp only [mkFn, sCons, sSet, sPar, sUnp, sIf, sRet, sRetN, sDrop, sNil, sBrk, sCnt, bndS, bnd, rt, opt, fVar, fVal, fBin, fUn, rd1, rd2, Rv.rd, Sl.rd, fD, fzM, Rv.fz, fCons, fNil, dCons, dNil, aCons, aNil, aBoxN, aBox, fCall, resolve, boxes, bxpos, wb, fNm, rdAll, fTup, fLst, hAdd, hSub, hInt2, hMulL, hLt, hLe, hGt, hGe, hNeg, hAbs, hLen, hInt1, hMax2, hMin2, hIx, fSl, oNone, oSome, hSl, fB, toB, fAnd, fOr, fNot, fAndV, fOrV, fNotV, fChain, kName, kTup, kCons, kNil, slOk, sStore, fMt, mtGo, hApp, hFdiv, hMod, hDivmod, outs, List.length_cons, List.length_nil, List.getElem?_cons_zero, List.getElem?_cons_succ, List.getElem?_nil, List.set_cons_zero, List.set_cons_succ, List.replicate_succ, List.replicate_zero, List.cons_append, List.nil_append, Option.bind_some, Option.map_some, cond_true, cond_false, ite_true, ite_false, Nat.reduceAdd, Nat.reduceSub, Nat.reduceEqDiff, Nat.reduceLeDiff, if_true, if_false, reduceIte, atI_n0, atI_n1, atI_n2, atI_n3, ixN_10, ixN_20, ixN_21, hEq_int, hNe_int, Bool.not_true, decide_true, decide_false, hTuple, sTryK, sRaise, Bool.false_eq_true, Bool.not_false, sz0, sz1, sz2, sz3, sz4, sz5, sz6, sz7, sz8, ec])]
  rw [sCons_nx (fs1 := [.dat S, .dat (.int thing), .dat (.int other), .own 0 (.list (M.map PyData.int)), .dat (.int ((A.length + 1 : Nat) : Int)), .no]) (by
    generalize fIndex (fVar 3) (fVar 2) = E2 at eix ⊢
    simp only [mkFn, sCons, sSet, sPar, sUnp, sIf, sRet, sRetN, sDrop, sNil, sBrk, sCnt, bndS, bnd, rt, opt, fVar, fVal, fBin, fUn, rd1, rd2, Rv.rd, Sl.rd, fD, fzM, Rv.fz, fCons, fNil, dCons, dNil, aCons, aNil, aBoxN, aBox, fCall, resolve, boxes, bxpos, wb, fNm, rdAll, fTup, fLst, hAdd, hSub, hInt2, hMulL, hLt, hLe, hGt, hGe, hNeg, hAbs, hLen, hInt1, hMax2, hMin2, hIx, fSl, oNone, oSome, hSl, fB, toB, fAnd, fOr, fNot, fAndV, fOrV, fNotV, fChain, kName, kTup, kCons, kNil, slOk, sStore, fMt, mtGo, hApp, hFdiv, hMod, hDivmod, outs, List.length_cons, List.length_nil, List.getElem?_cons_zero, List.getElem?_cons_succ, List.getElem?_nil, List.set_cons_zero, List.set_cons_succ, List.replicate_succ, List.replicate_zero, List.cons_append, List.nil_append, Option.bind_some, Option.map_some, cond_true, cond_false, ite_true, ite_false, Nat.reduceAdd, Nat.reduceSub, Nat.reduceEqDiff, Nat.reduceLeDiff, if_true, if_false, reduceIte, atI_n0, atI_n1, atI_n2, atI_n3, ixN_10, ixN_20, ixN_21, hEq_int, hNe_int, Bool.not_true, decide_true, decide_false, hTuple, sTryK, sRaise, Bool.false_eq_true, Bool.not_false, sz0, sz1, sz2, sz3, sz4, sz5, sz6, sz7, sz8, eix, ek])]
  have t1 : (M.map PyData.int).take (A.length + 1) = (A ++ [other]).map PyData.int := by
    rw [← List.map_take, ← hM]
    congr 1
    rw [show A ++ other :: B = (A ++ [other]) ++ B by simp]
    exact List.take_left' (by simp)
  have t2 : (M.map PyData.int).drop (A.length + 1) = B.map PyData.int := by
    rw [← List.map_drop, ← hM]
    congr 1
    rw [show A ++ other :: B = (A ++ [other]) ++ B by simp]
    exact List.drop_left' (by simp)
  have t3 : (A ++ [other]).map PyData.int ++ [PyData.int thing] ++ B.map PyData.int = (A ++ other :: thing :: B).map PyData.int := by simp
  have hl2 : A.length + B.length + 1 ≤ 400 := by
    rw [← hM] at hlen
    simp only [List.length_append, List.length_cons] at hlen
    omega
  have z1 : (((A ++ [other]).map PyData.int).length + 1 ≤ sizeLine) = True := eq_true (szl _ (by simp only [List.length_map, List.length_append, List.length_cons, List.length_nil]; omega))
  have z2 : (((A ++ [other]).map PyData.int ++ [PyData.int thing]).length + (B.map PyData.int).length ≤ sizeLine) = True := eq_true (szl _ (by simp only [List.length_map, List.length_append, List.length_cons, List.length_nil]; omega))
  generalize (A ++ [other]).map PyData.int = X at *
  generalize B.map PyData.int = Y at *
  generalize (A ++ other :: thing :: B).map PyData.int = Z at *
  simp only [mkFn, sCons, sSet, sPar, sUnp, sIf, sRet, sRetN, sDrop, sNil, sBrk, sCnt, bndS, bnd, rt, opt, fVar, fVal, fBin, fUn, rd1, rd2, Rv.rd, Sl.rd, fD, fzM, Rv.fz, fCons, fNil, dCons, dNil, aCons, aNil, aBoxN, aBox, fCall, resolve, boxes, bxpos, wb, fNm, rdAll, fTup, fLst, hAdd, hSub, hInt2, hMulL, hLt, hLe, hGt, hGe, hNeg, hAbs, hLen, hInt1, hMax2, hMin2, hIx, fSl, oNone, oSome, hSl, fB, toB, fAnd, fOr, fNot, fAndV, fOrV, fNotV, fChain, kName, kTup, kCons, kNil, slOk, sStore, fMt, mtGo, hApp, hFdiv, hMod, hDivmod, outs, List.length_cons, List.length_nil, List.getElem?_cons_zero, List.getElem?_cons_succ, List.getElem?_nil, List.set_cons_zero, List.set_cons_succ, List.replicate_succ, List.replicate_zero, List.cons_append, List.nil_append, Option.bind_some, Option.map_some, cond_true, cond_false, ite_true, ite_false, Nat.reduceAdd, Nat.reduceSub, Nat.reduceEqDiff, Nat.reduceLeDiff, if_true, if_false, reduceIte, atI_n0, atI_n1, atI_n2, atI_n3, ixN_10, ixN_20, ixN_21, hEq_int, hNe_int, Bool.not_true, decide_true, decide_false, hTuple, sTryK, sRaise, Bool.false_eq_true, Bool.not_false, sz0, sz1, sz2, sz3, sz4, sz5, sz6, sz7, sz8, cutL_to, cutL_from, t1, t2, z1, z2, t3]
abbrev stF (r : Int) (L : List Pr) (O : List Int) (b : Nat) (s7 : Sl) : Fs := [.dat (chN r L O), .dat (.int r), .dat (.tuple (L.map nmP)), .dat (.tuple (O.map PyData.int)), .dat (.int ((L.length : Int) - 1)), .dat (.int (b : Nat)), .own 0 (.list ((upto L.length).map PyData.int)), s7]
theorem rows0 {r : Int} {L : List Pr} {A B : List Int} {O : List Int} {top : Int} {p q : Pr} {b : Nat} (hO : O = A ++ top :: B ++ [(b : Int)]) (hp : O.Perm (upto L.length)) (ht : top = (L.length : Int) - 1) (h0 : 1 ≤ L.length) (hl : L.length ≤ 400) (h1 : L.getLast? = some p) (h3 : L[b]? = some q) (hne : p ≠ q) (hr : okRoot r) (hz : r = 0 → q.2 = 0 ∧ p.2 = 0) (bp : BtP 700 p) (bq : BtP 700 q)
    (hlt : ltP r q p = true) :
    d_p_step_rows [.dat (chN r L O)] = some (.inr (false, .tuple [.int 0, .list ((L.set (L.length - 1) (subP p q)).map nmP), .list ((A ++ top :: (b : Int) :: B).map PyData.int), .list ((upto L.length).map PyData.int)]), [.no]) := by
  have h2 : O.getLast? = some (b : Int) := by rw [hO, List.getLast?_append]; rfl
  have hn : O.Nodup := hp.nodup_iff.mpr (upto_nodup _)
  have ev := even_eq (r := r) h1 h2 h3
  rw [decide_eq_false hne] at ev
  have e2 := atI_last (last_map h2)
  have et : ((L.length : Nat) : Int) - 1 = ((L.length - 1 : Nat) : Int) := by omega
  have hlast : L[L.length - 1]? = some p := by rw [← List.getLast?_eq_getElem?]; exact h1
  have e3 : atI (L.map nmP) ((b : Nat) : Int) = some (nmP q) := by rw [atI_natE, List.getElem?_map, h3]; rfl
  have e4 : atI (L.map nmP) ((L.length : Int) - 1) = some (nmP p) := by rw [et, atI_natE, List.getElem?_map, hlast]; rfl
  have e5 : d_p_less [.dat (.int r), .dat (nmP q), .dat (nmP p)] = some (.inr (false, .bool (ltP r q p)), [.no, .no, .no]) := nm_pless hr hz (bq.1.mono (by decide)) (bq.2.mono (by decide)) (bp.1.mono (by decide)) (bp.2.mono (by decide))
  have e6 : d_p_minus [.dat (.int r), .dat (nmP p), .dat (nmP q)] = some (.inr (false, nmP (subP p q)), [.no, .no, .no]) := nm_pminus (.int r) (bp.1.mono (by decide)) (bp.2.mono (by decide)) (bq.1.mono (by decide)) (bq.2.mono (by decide))
  have e7 : ixN (L.map nmP).length ((L.length : Int) - 1) = some (L.length - 1) := by
    rw [et, ixN_natE, if_pos (by rw [List.length_map]; omega)]
  have e8 : (L.map nmP).set (L.length - 1) (nmP (subP p q)) = (L.set (L.length - 1) (subP p q)).map nmP := by rw [List.map_set]
  have e9 := put_eq (A := A) (B := B) (thing := (b : Int)) (other := top) (.tuple (O.map PyData.int)) (.inr rfl) hn (by rw [hp.length_eq, upto_length]; omega) (by
    rw [hO] at hn ⊢
    rw [show A ++ top :: B ++ [(b : Int)] = (A ++ top :: B) ++ (b : Int) :: [] by simp] at hn ⊢
    rw [split_filter hn]
    simp)
  rw [ht] at e9
  have e10 : hLR1 (.int ((L.map nmP).length : Nat)) = some (.fresh (.list ((upto L.length).map PyData.int))) := by rw [List.length_map]; exact hLR1_nat (by omega)
  have e11 : (((L.map nmP).length : Nat) : Int) = (L.length : Int) := by rw [List.length_map]
  rw [ht]
  rw [hlt] at e5
  unfold d_p_step_rows
  refine mkFn_ret (fs := [.dat (chN r L O), .dat (.int r), .dat (.tuple (L.map nmP)), .dat (.tuple (O.map PyData.int)), .dat (.int ((L.length : Int) - 1)), .dat (.int (b : Nat)), .dat (.list ((upto L.length).map PyData.int)), .dat (.list ((L.set (L.length - 1) (subP p q)).map nmP))]) rfl ?_
  show sCons _ _ [.dat (chN r L O), .no, .no, .no, .no, .no, .no, .no] = _
  rw [sCons_nx (fs1 := [.dat (chN r L O), .no, .no, .no, .no, .no, .no, .no]) (by
    generalize chN r L O = C at ev ⊢
    simp only [mkFn, sCons, sSet, sPar, sUnp, sIf, sRet, sRetN, sDrop, sNil, sBrk, sCnt, bndS, bnd, rt, opt, fVar, fVal, fBin, fUn, rd1, rd2, Rv.rd, Sl.rd, fD, fzM, Rv.fz, fCons, fNil, dCons, dNil, aCons, aNil, aBoxN, aBox, fCall, resolve, boxes, bxpos, wb, fNm, rdAll, fTup, fLst, hAdd, hSub, hInt2, hMulL, hLt, hLe, hGt, hGe, hNeg, hAbs, hLen, hInt1, hMax2, hMin2, hIx, fSl, oNone, oSome, hSl, fB, toB, fAnd, fOr, fNot, fAndV, fOrV, fNotV, fChain, kName, kTup, kCons, kNil, slOk, sStore, fMt, mtGo, hApp, hFdiv, hMod, hDivmod, outs, List.length_cons, List.length_nil, List.getElem?_cons_zero, List.getElem?_cons_succ, List.getElem?_nil, List.set_cons_zero, List.set_cons_succ, List.replicate_succ, List.replicate_zero, List.cons_append, List.nil_append, Option.bind_some, Option.map_some, cond_true, cond_false, ite_true, ite_false, Nat.reduceAdd, Nat.reduceSub, Nat.reduceEqDiff, Nat.reduceLeDiff, if_true, if_false, reduceIte, atI_n0, atI_n1, atI_n2, atI_n3, ixN_10, ixN_20, ixN_21, hEq_int, hNe_int, Bool.not_true, decide_true, decide_false, hTuple, sTryK, sRaise, Bool.false_eq_true, Bool.not_false, sz0, sz1, sz2, sz3, sz4, sz5, sz6, sz7, sz8, ev])]
  rw [sCons_nx (fs1 := [.dat (chN r L O), .dat (.int r), .dat (.tuple (L.map nmP)), .dat (.tuple (O.map PyData.int)), .no, .no, .no, .no]) (by simp only [mkFn, sCons, sSet, sPar, sUnp, sIf, sRet, sRetN, sDrop, sNil, sBrk, sCnt, bndS, bnd, rt, opt, fVar, fVal, fBin, fUn, rd1, rd2, Rv.rd, Sl.rd, fD, fzM, Rv.fz, fCons, fNil, dCons, dNil, aCons, aNil, aBoxN, aBox, fCall, resolve, boxes, bxpos, wb, fNm, rdAll, fTup, fLst, hAdd, hSub, hInt2, hMulL, hLt, hLe, hGt, hGe, hNeg, hAbs, hLen, hInt1, hMax2, hMin2, hIx, fSl, oNone, oSome, hSl, fB, toB, fAnd, fOr, fNot, fAndV, fOrV, fNotV, fChain, kName, kTup, kCons, kNil, slOk, sStore, fMt, mtGo, hApp, hFdiv, hMod, hDivmod, outs, List.length_cons, List.length_nil, List.getElem?_cons_zero, List.getElem?_cons_succ, List.getElem?_nil, List.set_cons_zero, List.set_cons_succ, List.replicate_succ, List.replicate_zero, List.cons_append, List.nil_append, Option.bind_some, Option.map_some, cond_true, cond_false, ite_true, ite_false, Nat.reduceAdd, Nat.reduceSub, Nat.reduceEqDiff, Nat.reduceLeDiff, if_true, if_false, reduceIte, atI_n0, atI_n1, atI_n2, atI_n3, ixN_10, ixN_20, ixN_21, hEq_int, hNe_int, Bool.not_true, decide_true, decide_false, hTuple, sTryK, sRaise, Bool.false_eq_true, Bool.not_false, sz0, sz1, sz2, sz3, sz4, sz5, sz6, sz7, sz8])]
  generalize chN r L O = C at *
  rw [sCons_nx (fs1 := [.dat C, .dat (.int r), .dat (.tuple (L.map nmP)), .dat (.tuple (O.map PyData.int)), .dat (.int ((L.length : Int) - 1)), .no, .no, .no]) (by simp only [mkFn, sCons, sSet, sPar, sUnp, sIf, sRet, sRetN, sDrop, sNil, sBrk, sCnt, bndS, bnd, rt, opt, fVar, fVal, fBin, fUn, rd1, rd2, Rv.rd, Sl.rd, fD, fzM, Rv.fz, fCons, fNil, dCons, dNil, aCons, aNil, aBoxN, aBox, fCall, resolve, boxes, bxpos, wb, fNm, rdAll, fTup, fLst, hAdd, hSub, hInt2, hMulL, hLt, hLe, hGt, hGe, hNeg, hAbs, hLen, hInt1, hMax2, hMin2, hIx, fSl, oNone, oSome, hSl, fB, toB, fAnd, fOr, fNot, fAndV, fOrV, fNotV, fChain, kName, kTup, kCons, kNil, slOk, sStore, fMt, mtGo, hApp, hFdiv, hMod, hDivmod, outs, List.length_cons, List.length_nil, List.getElem?_cons_zero, List.getElem?_cons_succ, List.getElem?_nil, List.set_cons_zero, List.set_cons_succ, List.replicate_succ, List.replicate_zero, List.cons_append, List.nil_append, Option.bind_some, Option.map_some, cond_true, cond_false, ite_true, ite_false, Nat.reduceAdd, Nat.reduceSub, Nat.reduceEqDiff, Nat.reduceLeDiff, if_true, if_false, reduceIte, atI_n0, atI_n1, atI_n2, atI_n3, ixN_10, ixN_20, ixN_21, hEq_int, hNe_int, Bool.not_true, decide_true, decide_false, hTuple, sTryK, sRaise, Bool.false_eq_true, Bool.not_false, sz0, sz1, sz2, sz3, sz4, sz5, sz6, sz7, sz8, e11])]
  rw [sCons_nx (fs1 := [.dat C, .dat (.int r), .dat (.tuple (L.map nmP)), .dat (.tuple (O.map PyData.int)), .dat (.int ((L.length : Int) - 1)), .dat (.int (b : Nat)), .no, .no]) (by simp only [mkFn, sCons, sSet, sPar, sUnp, sIf, sRet, sRetN, sDrop, sNil, sBrk, sCnt, bndS, bnd, rt, opt, fVar, fVal, fBin, fUn, rd1, rd2, Rv.rd, Sl.rd, fD, fzM, Rv.fz, fCons, fNil, dCons, dNil, aCons, aNil, aBoxN, aBox, fCall, resolve, boxes, bxpos, wb, fNm, rdAll, fTup, fLst, hAdd, hSub, hInt2, hMulL, hLt, hLe, hGt, hGe, hNeg, hAbs, hLen, hInt1, hMax2, hMin2, hIx, fSl, oNone, oSome, hSl, fB, toB, fAnd, fOr, fNot, fAndV, fOrV, fNotV, fChain, kName, kTup, kCons, kNil, slOk, sStore, fMt, mtGo, hApp, hFdiv, hMod, hDivmod, outs, List.length_cons, List.length_nil, List.getElem?_cons_zero, List.getElem?_cons_succ, List.getElem?_nil, List.set_cons_zero, List.set_cons_succ, List.replicate_succ, List.replicate_zero, List.cons_append, List.nil_append, Option.bind_some, Option.map_some, cond_true, cond_false, ite_true, ite_false, Nat.reduceAdd, Nat.reduceSub, Nat.reduceEqDiff, Nat.reduceLeDiff, if_true, if_false, reduceIte, atI_n0, atI_n1, atI_n2, atI_n3, ixN_10, ixN_20, ixN_21, hEq_int, hNe_int, Bool.not_true, decide_true, decide_false, hTuple, sTryK, sRaise, Bool.false_eq_true, Bool.not_false, sz0, sz1, sz2, sz3, sz4, sz5, sz6, sz7, sz8, e2])]
  rw [sCons_nx (fs1 := [.dat C, .dat (.int r), .dat (.tuple (L.map nmP)), .dat (.tuple (O.map PyData.int)), .dat (.int ((L.length : Int) - 1)), .dat (.int (b : Nat)), .own 0 (.list ((upto L.length).map PyData.int)), .no]) (by simp only [mkFn, sCons, sSet, sPar, sUnp, sIf, sRet, sRetN, sDrop, sNil, sBrk, sCnt, bndS, bnd, rt, opt, fVar, fVal, fBin, fUn, rd1, rd2, Rv.rd, Sl.rd, fD, fzM, Rv.fz, fCons, fNil, dCons, dNil, aCons, aNil, aBoxN, aBox, fCall, resolve, boxes, bxpos, wb, fNm, rdAll, fTup, fLst, hAdd, hSub, hInt2, hMulL, hLt, hLe, hGt, hGe, hNeg, hAbs, hLen, hInt1, hMax2, hMin2, hIx, fSl, oNone, oSome, hSl, fB, toB, fAnd, fOr, fNot, fAndV, fOrV, fNotV, fChain, kName, kTup, kCons, kNil, slOk, sStore, fMt, mtGo, hApp, hFdiv, hMod, hDivmod, outs, List.length_cons, List.length_nil, List.getElem?_cons_zero, List.getElem?_cons_succ, List.getElem?_nil, List.set_cons_zero, List.set_cons_succ, List.replicate_succ, List.replicate_zero, List.cons_append, List.nil_append, Option.bind_some, Option.map_some, cond_true, cond_false, ite_true, ite_false, Nat.reduceAdd, Nat.reduceSub, Nat.reduceEqDiff, Nat.reduceLeDiff, if_true, if_false, reduceIte, atI_n0, atI_n1, atI_n2, atI_n3, ixN_10, ixN_20, ixN_21, hEq_int, hNe_int, Bool.not_true, decide_true, decide_false, hTuple, sTryK, sRaise, Bool.false_eq_true, Bool.not_false, sz0, sz1, sz2, sz3, sz4, sz5, sz6, sz7, sz8, e10])]
  rw [sCons_nx (fs1 := [.dat C, .dat (.int r), .dat (.tuple (L.map nmP)), .dat (.tuple (O.map PyData.int)), .dat (.int ((L.length : Int) - 1)), .dat (.int (b : Nat)), .own 0 (.list ((upto L.length).map PyData.int)), .own 0 (.list (L.map nmP))]) (by simp only [mkFn, sCons, sSet, sPar, sUnp, sIf, sRet, sRetN, sDrop, sNil, sBrk, sCnt, bndS, bnd, rt, opt, fVar, fVal, fBin, fUn, rd1, rd2, Rv.rd, Sl.rd, fD, fzM, Rv.fz, fCons, fNil, dCons, dNil, aCons, aNil, aBoxN, aBox, fCall, resolve, boxes, bxpos, wb, fNm, rdAll, fTup, fLst, hAdd, hSub, hInt2, hMulL, hLt, hLe, hGt, hGe, hNeg, hAbs, hLen, hInt1, hMax2, hMin2, hIx, fSl, oNone, oSome, hSl, fB, toB, fAnd, fOr, fNot, fAndV, fOrV, fNotV, fChain, kName, kTup, kCons, kNil, slOk, sStore, fMt, mtGo, hApp, hFdiv, hMod, hDivmod, outs, List.length_cons, List.length_nil, List.getElem?_cons_zero, List.getElem?_cons_succ, List.getElem?_nil, List.set_cons_zero, List.set_cons_succ, List.replicate_succ, List.replicate_zero, List.cons_append, List.nil_append, Option.bind_some, Option.map_some, cond_true, cond_false, ite_true, ite_false, Nat.reduceAdd, Nat.reduceSub, Nat.reduceEqDiff, Nat.reduceLeDiff, if_true, if_false, reduceIte, atI_n0, atI_n1, atI_n2, atI_n3, ixN_10, ixN_20, ixN_21, hEq_int, hNe_int, Bool.not_true, decide_true, decide_false, hTuple, sTryK, sRaise, Bool.false_eq_true, Bool.not_false, sz0, sz1, sz2, sz3, sz4, sz5, sz6, sz7, sz8, hList])]
  refine sCons_ret ?_
  generalize nmP (subP p q) = W at *
  generalize nmP p = P at *
  generalize nmP q = Q at *
  generalize L.map nmP = LL at *
  rw [sIf_t (fs1 := [.dat C, .dat (.int r), .dat (.tuple LL), .dat (.tuple (O.map PyData.int)), .dat (.int ((L.length : Int) - 1)), .dat (.int (b : Nat)), .own 0 (.list ((upto L.length).map PyData.int)), .own 0 (.list LL)]) (by simp only [mkFn, sCons, sSet, sPar, sUnp, sIf, sRet, sRetN, sDrop, sNil, sBrk, sCnt, bndS, bnd, rt, opt, fVar, fVal, fBin, fUn, rd1, rd2, Rv.rd, Sl.rd, fD, fzM, Rv.fz, fCons, fNil, dCons, dNil, aCons, aNil, aBoxN, aBox, fCall, resolve, boxes, bxpos, wb, fNm, rdAll, fTup, fLst, hAdd, hSub, hInt2, hMulL, hLt, hLe, hGt, hGe, hNeg, hAbs, hLen, hInt1, hMax2, hMin2, hIx, fSl, oNone, oSome, hSl, fB, toB, fAnd, fOr, fNot, fAndV, fOrV, fNotV, fChain, kName, kTup, kCons, kNil, slOk, sStore, fMt, mtGo, hApp, hFdiv, hMod, hDivmod, outs, List.length_cons, List.length_nil, List.getElem?_cons_zero, List.getElem?_cons_succ, List.getElem?_nil, List.set_cons_zero, List.set_cons_succ, List.replicate_succ, List.replicate_zero, List.cons_append, List.nil_append, Option.bind_some, Option.map_some, cond_true, cond_false, ite_true, ite_false, Nat.reduceAdd, Nat.reduceSub, Nat.reduceEqDiff, Nat.reduceLeDiff, if_true, if_false, reduceIte, atI_n0, atI_n1, atI_n2, atI_n3, ixN_10, ixN_20, ixN_21, hEq_int, hNe_int, Bool.not_true, decide_true, decide_false, hTuple, sTryK, sRaise, Bool.false_eq_true, Bool.not_false, sz0, sz1, sz2, sz3, sz4, sz5, sz6, sz7, sz8, e3, e4, e5])]
  rw [sCons_nx (fs1 := [.dat C, .dat (.int r), .dat (.tuple LL), .dat (.tuple (O.map PyData.int)), .dat (.int ((L.length : Int) - 1)), .dat (.int (b : Nat)), .own 0 (.list ((upto L.length).map PyData.int)), .own 0 (.list ((L.set (L.length - 1) (subP p q)).map nmP))]) (by simp only [mkFn, sCons, sSet, sPar, sUnp, sIf, sRet, sRetN, sDrop, sNil, sBrk, sCnt, bndS, bnd, rt, opt, fVar, fVal, fBin, fUn, rd1, rd2, Rv.rd, Sl.rd, fD, fzM, Rv.fz, fCons, fNil, dCons, dNil, aCons, aNil, aBoxN, aBox, fCall, resolve, boxes, bxpos, wb, fNm, rdAll, fTup, fLst, hAdd, hSub, hInt2, hMulL, hLt, hLe, hGt, hGe, hNeg, hAbs, hLen, hInt1, hMax2, hMin2, hIx, fSl, oNone, oSome, hSl, fB, toB, fAnd, fOr, fNot, fAndV, fOrV, fNotV, fChain, kName, kTup, kCons, kNil, slOk, sStore, fMt, mtGo, hApp, hFdiv, hMod, hDivmod, outs, List.length_cons, List.length_nil, List.getElem?_cons_zero, List.getElem?_cons_succ, List.getElem?_nil, List.set_cons_zero, List.set_cons_succ, List.replicate_succ, List.replicate_zero, List.cons_append, List.nil_append, Option.bind_some, Option.map_some, cond_true, cond_false, ite_true, ite_false, Nat.reduceAdd, Nat.reduceSub, Nat.reduceEqDiff, Nat.reduceLeDiff, if_true, if_false, reduceIte, atI_n0, atI_n1, atI_n2, atI_n3, ixN_10, ixN_20, ixN_21, hEq_int, hNe_int, Bool.not_true, decide_true, decide_false, hTuple, sTryK, sRaise, Bool.false_eq_true, Bool.not_false, sz0, sz1, sz2, sz3, sz4, sz5, sz6, sz7, sz8, e3, e4, e6, e7, e8])]
  simp only [mkFn, sCons, sSet, sPar, sUnp, sIf, sRet, sRetN, sDrop, sNil, sBrk, sCnt, bndS, bnd, rt, opt, fVar, fVal, fBin, fUn, rd1, rd2, Rv.rd, Sl.rd, fD, fzM, Rv.fz, fCons, fNil, dCons, dNil, aCons, aNil, aBoxN, aBox, fCall, resolve, boxes, bxpos, wb, fNm, rdAll, fTup, fLst, hAdd, hSub, hInt2, hMulL, hLt, hLe, hGt, hGe, hNeg, hAbs, hLen, hInt1, hMax2, hMin2, hIx, fSl, oNone, oSome, hSl, fB, toB, fAnd, fOr, fNot, fAndV, fOrV, fNotV, fChain, kName, kTup, kCons, kNil, slOk, sStore, fMt, mtGo, hApp, hFdiv, hMod, hDivmod, outs, List.length_cons, List.length_nil, List.getElem?_cons_zero, List.getElem?_cons_succ, List.getElem?_nil, List.set_cons_zero, List.set_cons_succ, List.replicate_succ, List.replicate_zero, List.cons_append, List.nil_append, Option.bind_some, Option.map_some, cond_true, cond_false, ite_true, ite_false, Nat.reduceAdd, Nat.reduceSub, Nat.reduceEqDiff, Nat.reduceLeDiff, if_true, if_false, reduceIte, atI_n0, atI_n1, atI_n2, atI_n3, ixN_10, ixN_20, ixN_21, hEq_int, hNe_int, Bool.not_true, decide_true, decide_false, hTuple, sTryK, sRaise, Bool.false_eq_true, Bool.not_false, sz0, sz1, sz2, sz3, sz4, sz5, sz6, sz7, sz8, e9]
theorem rows1 {r : Int} {L : List Pr} {O : List Int} {p q : Pr} {b : Nat} (h2 : O.getLast? = some (b : Int)) (hb : b + 1 < L.length) (hp : O.Perm (upto L.length)) (h0 : 1 ≤ L.length) (hl : L.length ≤ 400) (h1 : L.getLast? = some p) (h3 : L[b]? = some q) (hne : p ≠ q) (hr : okRoot r) (hz : r = 0 → q.2 = 0 ∧ p.2 = 0) (bp : BtP 700 p) (bq : BtP 700 q)
    (hlt : ltP r q p = false) :
    d_p_step_rows [.dat (chN r L O)] = some (.inr (false, .tuple [.int 1, .list ((L.set b (subP q p)).map nmP), .list (O.map PyData.int), .list ((ahL L.length b).map PyData.int)]), [.no]) := by
  have hn : O.Nodup := hp.nodup_iff.mpr (upto_nodup _)
  have ev := even_eq (r := r) h1 h2 h3
  rw [decide_eq_false hne] at ev
  have e2 := atI_last (last_map h2)
  have et : ((L.length : Nat) : Int) - 1 = ((L.length - 1 : Nat) : Int) := by omega
  have hlast : L[L.length - 1]? = some p := by rw [← List.getLast?_eq_getElem?]; exact h1
  have e3 : atI (L.map nmP) ((b : Nat) : Int) = some (nmP q) := by rw [atI_natE, List.getElem?_map, h3]; rfl
  have e4 : atI (L.map nmP) ((L.length : Int) - 1) = some (nmP p) := by rw [et, atI_natE, List.getElem?_map, hlast]; rfl
  have e5 : d_p_less [.dat (.int r), .dat (nmP q), .dat (nmP p)] = some (.inr (false, .bool (ltP r q p)), [.no, .no, .no]) := nm_pless hr hz (bq.1.mono (by decide)) (bq.2.mono (by decide)) (bp.1.mono (by decide)) (bp.2.mono (by decide))
  have e6 : d_p_minus [.dat (.int r), .dat (nmP q), .dat (nmP p)] = some (.inr (false, nmP (subP q p)), [.no, .no, .no]) := nm_pminus (.int r) (bq.1.mono (by decide)) (bq.2.mono (by decide)) (bp.1.mono (by decide)) (bp.2.mono (by decide))
  have e7 : ixN (L.map nmP).length ((b : Nat) : Int) = some b := by
    rw [ixN_natE, if_pos (by rw [List.length_map]; omega)]
  have e8 : (L.map nmP).set b (nmP (subP q p)) = (L.set b (subP q p)).map nmP := by rw [List.map_set]
  have e9 := put_eq (A := upto b) (B := (upto (L.length - 1)).drop (b + 1)) (thing := (L.length : Int) - 1) (other := (b : Int)) (.list ((upto L.length).map PyData.int)) (.inl rfl) (upto_nodup _) (by rw [upto_length]; omega) (by
    have ea : upto L.length = upto (L.length - 1) ++ ((L.length : Int) - 1) :: [] := by
      have := upto_add (L.length - 1) 1
      rw [show L.length - 1 + 1 = L.length by omega] at this
      rw [this]
      congr 1
      show [(0 : Int) + ((L.length - 1 : Nat) : Int)] = _
      congr 1
      omega
    have hn3 := upto_nodup L.length
    rw [ea] at hn3 ⊢
    rw [split_filter hn3, List.append_nil]
    have e1 : upto b = (upto (L.length - 1)).take b := by
      unfold upto
      rw [← List.map_take, List.take_range]
      congr 2
      omega
    have e2 := List.getElem?_eq_some_iff.mp (upto_get (n := L.length - 1) (i := b) (by omega))
    rw [e1]
    conv => lhs; rw [← List.take_append_drop b (upto (L.length - 1))]
    congr 1
    rw [← List.getElem_cons_drop e2.1, e2.2])
  have e12 : upto b ++ (b : Int) :: ((L.length : Int) - 1) :: (upto (L.length - 1)).drop (b + 1) = ahL L.length b := by
    unfold ahL
    have : upto (b + 1) = upto b ++ [(b : Int)] := by
      rw [upto_add b 1]
      congr 1
      show [(0 : Int) + (b : Int)] = _
      rw [Int.zero_add]
    rw [this]
    simp
  rw [e12] at e9
  have e10 : hLR1 (.int ((L.map nmP).length : Nat)) = some (.fresh (.list ((upto L.length).map PyData.int))) := by rw [List.length_map]; exact hLR1_nat (by omega)
  have e11 : (((L.map nmP).length : Nat) : Int) = (L.length : Int) := by rw [List.length_map]
  rw [hlt] at e5
  unfold d_p_step_rows
  refine mkFn_ret (fs := [.dat (chN r L O), .dat (.int r), .dat (.tuple (L.map nmP)), .dat (.tuple (O.map PyData.int)), .dat (.int ((L.length : Int) - 1)), .dat (.int (b : Nat)), .dat (.list ((upto L.length).map PyData.int)), .dat (.list ((L.set b (subP q p)).map nmP))]) rfl ?_
  show sCons _ _ [.dat (chN r L O), .no, .no, .no, .no, .no, .no, .no] = _
  rw [sCons_nx (fs1 := [.dat (chN r L O), .no, .no, .no, .no, .no, .no, .no]) (by
    generalize chN r L O = C at ev ⊢
    simp only [mkFn, sCons, sSet, sPar, sUnp, sIf, sRet, sRetN, sDrop, sNil, sBrk, sCnt, bndS, bnd, rt, opt, fVar, fVal, fBin, fUn, rd1, rd2, Rv.rd, Sl.rd, fD, fzM, Rv.fz, fCons, fNil, dCons, dNil, aCons, aNil, aBoxN, aBox, fCall, resolve, boxes, bxpos, wb, fNm, rdAll, fTup, fLst, hAdd, hSub, hInt2, hMulL, hLt, hLe, hGt, hGe, hNeg, hAbs, hLen, hInt1, hMax2, hMin2, hIx, fSl, oNone, oSome, hSl, fB, toB, fAnd, fOr, fNot, fAndV, fOrV, fNotV, fChain, kName, kTup, kCons, kNil, slOk, sStore, fMt, mtGo, hApp, hFdiv, hMod, hDivmod, outs, List.length_cons, List.length_nil, List.getElem?_cons_zero, List.getElem?_cons_succ, List.getElem?_nil, List.set_cons_zero, List.set_cons_succ, List.replicate_succ, List.replicate_zero, List.cons_append, List.nil_append, Option.bind_some, Option.map_some, cond_true, cond_false, ite_true, ite_false, Nat.reduceAdd, Nat.reduceSub, Nat.reduceEqDiff, Nat.reduceLeDiff, if_true, if_false, reduceIte, atI_n0, atI_n1, atI_n2, atI_n3, ixN_10, ixN_20, ixN_21, hEq_int, hNe_int, Bool.not_true, decide_true, decide_false, hTuple, sTryK, sRaise, Bool.false_eq_true, Bool.not_false, sz0, sz1, sz2, sz3, sz4, sz5, sz6, sz7, sz8, ev])]
  rw [sCons_nx (fs1 := [.dat (chN r L O), .dat (.int r), .dat (.tuple (L.map nmP)), .dat (.tuple (O.map PyData.int)), .no, .no, .no, .no]) (by simp only [mkFn, sCons, sSet, sPar, sUnp, sIf, sRet, sRetN, sDrop, sNil, sBrk, sCnt, bndS, bnd, rt, opt, fVar, fVal, fBin, fUn, rd1, rd2, Rv.rd, Sl.rd, fD, fzM, Rv.fz, fCons, fNil, dCons, dNil, aCons, aNil, aBoxN, aBox, fCall, resolve, boxes, bxpos, wb, fNm, rdAll, fTup, fLst, hAdd, hSub, hInt2, hMulL, hLt, hLe, hGt, hGe, hNeg, hAbs, hLen, hInt1, hMax2, hMin2, hIx, fSl, oNone, oSome, hSl, fB, toB, fAnd, fOr, fNot, fAndV, fOrV, fNotV, fChain, kName, kTup, kCons, kNil, slOk, sStore, fMt, mtGo, hApp, hFdiv, hMod, hDivmod, outs, List.length_cons, List.length_nil, List.getElem?_cons_zero, List.getElem?_cons_succ, List.getElem?_nil, List.set_cons_zero, List.set_cons_succ, List.replicate_succ, List.replicate_zero, List.cons_append, List.nil_append, Option.bind_some, Option.map_some, cond_true, cond_false, ite_true, ite_false, Nat.reduceAdd, Nat.reduceSub, Nat.reduceEqDiff, Nat.reduceLeDiff, if_true, if_false, reduceIte, atI_n0, atI_n1, atI_n2, atI_n3, ixN_10, ixN_20, ixN_21, hEq_int, hNe_int, Bool.not_true, decide_true, decide_false, hTuple, sTryK, sRaise, Bool.false_eq_true, Bool.not_false, sz0, sz1, sz2, sz3, sz4, sz5, sz6, sz7, sz8])]
  generalize chN r L O = C at *
  rw [sCons_nx (fs1 := [.dat C, .dat (.int r), .dat (.tuple (L.map nmP)), .dat (.tuple (O.map PyData.int)), .dat (.int ((L.length : Int) - 1)), .no, .no, .no]) (by simp only [mkFn, sCons, sSet, sPar, sUnp, sIf, sRet, sRetN, sDrop, sNil, sBrk, sCnt, bndS, bnd, rt, opt, fVar, fVal, fBin, fUn, rd1, rd2, Rv.rd, Sl.rd, fD, fzM, Rv.fz, fCons, fNil, dCons, dNil, aCons, aNil, aBoxN, aBox, fCall, resolve, boxes, bxpos, wb, fNm, rdAll, fTup, fLst, hAdd, hSub, hInt2, hMulL, hLt, hLe, hGt, hGe, hNeg, hAbs, hLen, hInt1, hMax2, hMin2, hIx, fSl, oNone, oSome, hSl, fB, toB, fAnd, fOr, fNot, fAndV, fOrV, fNotV, fChain, kName, kTup, kCons, kNil, slOk, sStore, fMt, mtGo, hApp, hFdiv, hMod, hDivmod, outs, List.length_cons, List.length_nil, List.getElem?_cons_zero, List.getElem?_cons_succ, List.getElem?_nil, List.set_cons_zero, List.set_cons_succ, List.replicate_succ, List.replicate_zero, List.cons_append, List.nil_append, Option.bind_some, Option.map_some, cond_true, cond_false, ite_true, ite_false, Nat.reduceAdd, Nat.reduceSub, Nat.reduceEqDiff, Nat.reduceLeDiff, if_true, if_false, reduceIte, atI_n0, atI_n1, atI_n2, atI_n3, ixN_10, ixN_20, ixN_21, hEq_int, hNe_int, Bool.not_true, decide_true, decide_false, hTuple, sTryK, sRaise, Bool.false_eq_true, Bool.not_false, sz0, sz1, sz2, sz3, sz4, sz5, sz6, sz7, sz8, e11])]
  rw [sCons_nx (fs1 := [.dat C, .dat (.int r), .dat (.tuple (L.map nmP)), .dat (.tuple (O.map PyData.int)), .dat (.int ((L.length : Int) - 1)), .dat (.int (b : Nat)), .no, .no]) (by simp only [mkFn, sCons, sSet, sPar, sUnp, sIf, sRet, sRetN, sDrop, sNil, sBrk, sCnt, bndS, bnd, rt, opt, fVar, fVal, fBin, fUn, rd1, rd2, Rv.rd, Sl.rd, fD, fzM, Rv.fz, fCons, fNil, dCons, dNil, aCons, aNil, aBoxN, aBox, fCall, resolve, boxes, bxpos, wb, fNm, rdAll, fTup, fLst, hAdd, hSub, hInt2, hMulL, hLt, hLe, hGt, hGe, hNeg, hAbs, hLen, hInt1, hMax2, hMin2, hIx, fSl, oNone, oSome, hSl, fB, toB, fAnd, fOr, fNot, fAndV, fOrV, fNotV, fChain, kName, kTup, kCons, kNil, slOk, sStore, fMt, mtGo, hApp, hFdiv, hMod, hDivmod, outs, List.length_cons, List.length_nil, List.getElem?_cons_zero, List.getElem?_cons_succ, List.getElem?_nil, List.set_cons_zero, List.set_cons_succ, List.replicate_succ, List.replicate_zero, List.cons_append, List.nil_append, Option.bind_some, Option.map_some, cond_true, cond_false, ite_true, ite_false, Nat.reduceAdd, Nat.reduceSub, Nat.reduceEqDiff, Nat.reduceLeDiff, if_true, if_false, reduceIte, atI_n0, atI_n1, atI_n2, atI_n3, ixN_10, ixN_20, ixN_21, hEq_int, hNe_int, Bool.not_true, decide_true, decide_false, hTuple, sTryK, sRaise, Bool.false_eq_true, Bool.not_false, sz0, sz1, sz2, sz3, sz4, sz5, sz6, sz7, sz8, e2])]
  rw [sCons_nx (fs1 := [.dat C, .dat (.int r), .dat (.tuple (L.map nmP)), .dat (.tuple (O.map PyData.int)), .dat (.int ((L.length : Int) - 1)), .dat (.int (b : Nat)), .own 0 (.list ((upto L.length).map PyData.int)), .no]) (by simp only [mkFn, sCons, sSet, sPar, sUnp, sIf, sRet, sRetN, sDrop, sNil, sBrk, sCnt, bndS, bnd, rt, opt, fVar, fVal, fBin, fUn, rd1, rd2, Rv.rd, Sl.rd, fD, fzM, Rv.fz, fCons, fNil, dCons, dNil, aCons, aNil, aBoxN, aBox, fCall, resolve, boxes, bxpos, wb, fNm, rdAll, fTup, fLst, hAdd, hSub, hInt2, hMulL, hLt, hLe, hGt, hGe, hNeg, hAbs, hLen, hInt1, hMax2, hMin2, hIx, fSl, oNone, oSome, hSl, fB, toB, fAnd, fOr, fNot, fAndV, fOrV, fNotV, fChain, kName, kTup, kCons, kNil, slOk, sStore, fMt, mtGo, hApp, hFdiv, hMod, hDivmod, outs, List.length_cons, List.length_nil, List.getElem?_cons_zero, List.getElem?_cons_succ, List.getElem?_nil, List.set_cons_zero, List.set_cons_succ, List.replicate_succ, List.replicate_zero, List.cons_append, List.nil_append, Option.bind_some, Option.map_some, cond_true, cond_false, ite_true, ite_false, Nat.reduceAdd, Nat.reduceSub, Nat.reduceEqDiff, Nat.reduceLeDiff, if_true, if_false, reduceIte, atI_n0, atI_n1, atI_n2, atI_n3, ixN_10, ixN_20, ixN_21, hEq_int, hNe_int, Bool.not_true, decide_true, decide_false, hTuple, sTryK, sRaise, Bool.false_eq_true, Bool.not_false, sz0, sz1, sz2, sz3, sz4, sz5, sz6, sz7, sz8, e10])]
  rw [sCons_nx (fs1 := [.dat C, .dat (.int r), .dat (.tuple (L.map nmP)), .dat (.tuple (O.map PyData.int)), .dat (.int ((L.length : Int) - 1)), .dat (.int (b : Nat)), .own 0 (.list ((upto L.length).map PyData.int)), .own 0 (.list (L.map nmP))]) (by simp only [mkFn, sCons, sSet, sPar, sUnp, sIf, sRet, sRetN, sDrop, sNil, sBrk, sCnt, bndS, bnd, rt, opt, fVar, fVal, fBin, fUn, rd1, rd2, Rv.rd, Sl.rd, fD, fzM, Rv.fz, fCons, fNil, dCons, dNil, aCons, aNil, aBoxN, aBox, fCall, resolve, boxes, bxpos, wb, fNm, rdAll, fTup, fLst, hAdd, hSub, hInt2, hMulL, hLt, hLe, hGt, hGe, hNeg, hAbs, hLen, hInt1, hMax2, hMin2, hIx, fSl, oNone, oSome, hSl, fB, toB, fAnd, fOr, fNot, fAndV, fOrV, fNotV, fChain, kName, kTup, kCons, kNil, slOk, sStore, fMt, mtGo, hApp, hFdiv, hMod, hDivmod, outs, List.length_cons, List.length_nil, List.getElem?_cons_zero, List.getElem?_cons_succ, List.getElem?_nil, List.set_cons_zero, List.set_cons_succ, List.replicate_succ, List.replicate_zero, List.cons_append, List.nil_append, Option.bind_some, Option.map_some, cond_true, cond_false, ite_true, ite_false, Nat.reduceAdd, Nat.reduceSub, Nat.reduceEqDiff, Nat.reduceLeDiff, if_true, if_false, reduceIte, atI_n0, atI_n1, atI_n2, atI_n3, ixN_10, ixN_20, ixN_21, hEq_int, hNe_int, Bool.not_true, decide_true, decide_false, hTuple, sTryK, sRaise, Bool.false_eq_true, Bool.not_false, sz0, sz1, sz2, sz3, sz4, sz5, sz6, sz7, sz8, hList])]
  generalize nmP (subP q p) = W at *
  generalize nmP p = P at *
  generalize nmP q = Q at *
  generalize L.map nmP = LL at *
  rw [sCons_nx (fs1 := [.dat C, .dat (.int r), .dat (.tuple LL), .dat (.tuple (O.map PyData.int)), .dat (.int ((L.length : Int) - 1)), .dat (.int (b : Nat)), .own 0 (.list ((upto L.length).map PyData.int)), .own 0 (.list LL)]) (by simp only [mkFn, sCons, sSet, sPar, sUnp, sIf, sRet, sRetN, sDrop, sNil, sBrk, sCnt, bndS, bnd, rt, opt, fVar, fVal, fBin, fUn, rd1, rd2, Rv.rd, Sl.rd, fD, fzM, Rv.fz, fCons, fNil, dCons, dNil, aCons, aNil, aBoxN, aBox, fCall, resolve, boxes, bxpos, wb, fNm, rdAll, fTup, fLst, hAdd, hSub, hInt2, hMulL, hLt, hLe, hGt, hGe, hNeg, hAbs, hLen, hInt1, hMax2, hMin2, hIx, fSl, oNone, oSome, hSl, fB, toB, fAnd, fOr, fNot, fAndV, fOrV, fNotV, fChain, kName, kTup, kCons, kNil, slOk, sStore, fMt, mtGo, hApp, hFdiv, hMod, hDivmod, outs, List.length_cons, List.length_nil, List.getElem?_cons_zero, List.getElem?_cons_succ, List.getElem?_nil, List.set_cons_zero, List.set_cons_succ, List.replicate_succ, List.replicate_zero, List.cons_append, List.nil_append, Option.bind_some, Option.map_some, cond_true, cond_false, ite_true, ite_false, Nat.reduceAdd, Nat.reduceSub, Nat.reduceEqDiff, Nat.reduceLeDiff, if_true, if_false, reduceIte, atI_n0, atI_n1, atI_n2, atI_n3, ixN_10, ixN_20, ixN_21, hEq_int, hNe_int, Bool.not_true, decide_true, decide_false, hTuple, sTryK, sRaise, Bool.false_eq_true, Bool.not_false, sz0, sz1, sz2, sz3, sz4, sz5, sz6, sz7, sz8, e3, e4, e5])]
  rw [sCons_nx (fs1 := [.dat C, .dat (.int r), .dat (.tuple LL), .dat (.tuple (O.map PyData.int)), .dat (.int ((L.length : Int) - 1)), .dat (.int (b : Nat)), .own 0 (.list ((upto L.length).map PyData.int)), .own 0 (.list ((L.set b (subP q p)).map nmP))]) (by simp only [mkFn, sCons, sSet, sPar, sUnp, sIf, sRet, sRetN, sDrop, sNil, sBrk, sCnt, bndS, bnd, rt, opt, fVar, fVal, fBin, fUn, rd1, rd2, Rv.rd, Sl.rd, fD, fzM, Rv.fz, fCons, fNil, dCons, dNil, aCons, aNil, aBoxN, aBox, fCall, resolve, boxes, bxpos, wb, fNm, rdAll, fTup, fLst, hAdd, hSub, hInt2, hMulL, hLt, hLe, hGt, hGe, hNeg, hAbs, hLen, hInt1, hMax2, hMin2, hIx, fSl, oNone, oSome, hSl, fB, toB, fAnd, fOr, fNot, fAndV, fOrV, fNotV, fChain, kName, kTup, kCons, kNil, slOk, sStore, fMt, mtGo, hApp, hFdiv, hMod, hDivmod, outs, List.length_cons, List.length_nil, List.getElem?_cons_zero, List.getElem?_cons_succ, List.getElem?_nil, List.set_cons_zero, List.set_cons_succ, List.replicate_succ, List.replicate_zero, List.cons_append, List.nil_append, Option.bind_some, Option.map_some, cond_true, cond_false, ite_true, ite_false, Nat.reduceAdd, Nat.reduceSub, Nat.reduceEqDiff, Nat.reduceLeDiff, if_true, if_false, reduceIte, atI_n0, atI_n1, atI_n2, atI_n3, ixN_10, ixN_20, ixN_21, hEq_int, hNe_int, Bool.not_true, decide_true, decide_false, hTuple, sTryK, sRaise, Bool.false_eq_true, Bool.not_false, sz0, sz1, sz2, sz3, sz4, sz5, sz6, sz7, sz8, e3, e4, e6, e7, e8])]
  simp only [mkFn, sCons, sSet, sPar, sUnp, sIf, sRet, sRetN, sDrop, sNil, sBrk, sCnt, bndS, bnd, rt, opt, fVar, fVal, fBin, fUn, rd1, rd2, Rv.rd, Sl.rd, fD, fzM, Rv.fz, fCons, fNil, dCons, dNil, aCons, aNil, aBoxN, aBox, fCall, resolve, boxes, bxpos, wb, fNm, rdAll, fTup, fLst, hAdd, hSub, hInt2, hMulL, hLt, hLe, hGt, hGe, hNeg, hAbs, hLen, hInt1, hMax2, hMin2, hIx, fSl, oNone, oSome, hSl, fB, toB, fAnd, fOr, fNot, fAndV, fOrV, fNotV, fChain, kName, kTup, kCons, kNil, slOk, sStore, fMt, mtGo, hApp, hFdiv, hMod, hDivmod, outs, List.length_cons, List.length_nil, List.getElem?_cons_zero, List.getElem?_cons_succ, List.getElem?_nil, List.set_cons_zero, List.set_cons_succ, List.replicate_succ, List.replicate_zero, List.cons_append, List.nil_append, Option.bind_some, Option.map_some, cond_true, cond_false, ite_true, ite_false, Nat.reduceAdd, Nat.reduceSub, Nat.reduceEqDiff, Nat.reduceLeDiff, if_true, if_false, reduceIte, atI_n0, atI_n1, atI_n2, atI_n3, ixN_10, ixN_20, ixN_21, hEq_int, hNe_int, Bool.not_true, decide_true, decide_false, hTuple, sTryK, sRaise, Bool.false_eq_true, Bool.not_false, sz0, sz1, sz2, sz3, sz4, sz5, sz6, sz7, sz8, e9, hList]
/-- the longs behind a step of sort 1 -/
def lonA (n k : Nat) (M : List Pr) : List Pr := (List.range n).map fun j => (M[ahf n k j]?).getD (0, 0)
theorem lonA_len (n k : Nat) (M : List Pr) : (lonA n k M).length = n := by unfold lonA; rw [List.length_map, List.length_range]
theorem lonA_get {n k j : Nat} {M : List Pr} (hl : M.length = n) (h : k + 1 < n) (hj : j < n) : (lonA n k M)[j]? = M[ahf n k j]? := by
  unfold lonA
  rw [List.getElem?_map, List.getElem?_range hj]
  show some ((M[ahf n k j]?).getD (0, 0)) = _
  obtain ⟨_, _, c, _⟩ := row_ah (j := j) h hj
  rw [List.getElem?_eq_getElem (by omega)]
  rfl
theorem lonA_D {n k : Nat} {M : List Pr} (hl : M.length = n) (h : k + 1 < n) : ((ahL n k).map PyData.int).map (getD0 (M.map nmP)) = (lonA n k M).map nmP := by
  apply List.ext_getElem?
  intro j
  by_cases hj : j < n
  · rw [List.getElem?_map, List.getElem?_map, ahL_get h hj, List.getElem?_map, lonA_get hl h hj]
    obtain ⟨_, _, c, _⟩ := row_ah (j := j) h hj
    show some ((atI (M.map nmP) ((ahf n k j : Nat) : Int)).getD .none) = _
    rw [atI_natE, List.getElem?_map, List.getElem?_eq_getElem (by omega)]
    rfl
  · rw [List.getElem?_eq_none (by rw [List.length_map, List.length_map, (ahL_perm h).length_eq, upto_length]; omega), List.getElem?_eq_none (by rw [List.length_map, lonA_len]; omega)]
/-- the order behind a step of sort 1 -/
def ordA (n k : Nat) (O : List Int) : List Int := O.map fun x => ((rowf n k x.toNat : Nat) : Int)
theorem ordA_eq {n k : Nat} {O : List Int} (h : k + 1 < n) (hO : ∀ x ∈ O, x ∈ upto n) : (O.map PyData.int).map (posD (ahL n k)) = (ordA n k O).map PyData.int := by
  unfold ordA
  rw [List.map_map, List.map_map]
  refine List.map_congr_left fun x hx => ?_
  have hm := upto_mem.mp (hO x hx)
  show PyData.int (((ahL n k).idxOf x : Nat) : Int) = _
  have := ahL_idx (y := x.toNat) h (by omega)
  rw [show ((x.toNat : Nat) : Int) = x by omega] at this
  rw [this]
  rfl
theorem ordA_perm {n k : Nat} {O : List Int} (h : k + 1 < n) (hp : O.Perm (upto n)) : (ordA n k O).Perm (upto n) := by
  refine (hp.map _).trans ?_
  refine perm_of_get (f := rowf n k) (g := ahf n k) (by rw [List.length_map, upto_length]) (fun j hj => ?_) fun j hj => ?_
  · rw [List.getElem?_map, upto_get hj]
    show some ((rowf n k ((j : Nat) : Int).toNat : Nat) : Int) = _
    rw [Int.toNat_natCast]
  · obtain ⟨a, b, c, d⟩ := row_ah h hj
    exact ⟨d, c, a, b⟩
theorem at_all {n : Nat} {xs : List D} (hl : xs.length = n) {x : Int} (h : x ∈ upto n) : ∃ d, atI xs x = some d := by
  have hm := upto_mem.mp h
  exact ⟨_, by rw [show x = ((x.toNat : Nat) : Int) by omega, atI_natE]; exact List.getElem?_eq_getElem (by omega)⟩
theorem step_by {r s : Int} {L M : List D} {O P R : List Int} {N : D} (h : d_p_step_rows [.dat (chD r L O)] = some (.inr (false, .tuple [.int s, .list M, .list (P.map PyData.int), .list (R.map PyData.int)]), [.no]))
    (h2 : d_p_named_anew [.dat (.int r), .dat (.list M), .dat (.list (P.map PyData.int)), .dat (.list (R.map PyData.int))] = some (.inr (false, N), [.no, .no, .no, .no])) :
    d_p_step_of [.dat (chD r L O)] = some (.inr (false, .tuple [.int s, N]), [.no]) := by
  simp only [d_p_step_of, mkFn, sCons, sSet, sPar, sUnp, sIf, sRet, sRetN, sDrop, sNil, sBrk, sCnt, bndS, bnd, rt, opt, fVar, fVal, fBin, fUn, rd1, rd2, Rv.rd, Sl.rd, fD, fzM, Rv.fz, fCons, fNil, dCons, dNil, aCons, aNil, aBoxN, aBox, fCall, resolve, boxes, bxpos, wb, fNm, rdAll, fTup, fLst, hAdd, hSub, hInt2, hMulL, hLt, hLe, hGt, hGe, hNeg, hAbs, hLen, hInt1, hMax2, hMin2, hIx, fSl, oNone, oSome, hSl, fB, toB, fAnd, fOr, fNot, fAndV, fOrV, fNotV, fChain, kName, kTup, kCons, kNil, slOk, sStore, fMt, mtGo, hApp, hFdiv, hMod, hDivmod, outs, List.length_cons, List.length_nil, List.getElem?_cons_zero, List.getElem?_cons_succ, List.getElem?_nil, List.set_cons_zero, List.set_cons_succ, List.replicate_succ, List.replicate_zero, List.cons_append, List.nil_append, Option.bind_some, Option.map_some, cond_true, cond_false, ite_true, ite_false, Nat.reduceAdd, Nat.reduceSub, Nat.reduceEqDiff, Nat.reduceLeDiff, if_true, if_false, reduceIte, atI_n0, atI_n1, atI_n2, atI_n3, ixN_10, ixN_20, ixN_21, hEq_int, hNe_int, Bool.not_true, decide_true, decide_false, hTuple, sTryK, sRaise, Bool.false_eq_true, Bool.not_false, sz0, sz1, sz2, sz3, sz4, sz5, sz6, sz7, sz8, h, h2]
theorem step0 {r : Int} {L : List Pr} {A B : List Int} {O : List Int} {top : Int} {p q : Pr} {b : Nat} (hO : O = A ++ top :: B ++ [(b : Int)]) (hp : O.Perm (upto L.length)) (ht : top = (L.length : Int) - 1) (h0 : 1 ≤ L.length) (hl : L.length ≤ 400) (h1 : L.getLast? = some p) (h3 : L[b]? = some q) (hne : p ≠ q) (hr : okRoot r) (hz : r = 0 → q.2 = 0 ∧ p.2 = 0) (bp : BtP 700 p) (bq : BtP 700 q)
    (hlt : ltP r q p = true) :
    d_p_step_of [.dat (chN r L O)] = some (.inr (false, .tuple [.int 0, chN r (L.set (L.length - 1) (subP p q)) (A ++ top :: (b : Int) :: B)]), [.no]) := by
  have e := rows0 hO hp ht h0 hl h1 h3 hne hr hz bp bq hlt
  have hp2 : (A ++ top :: (b : Int) :: B).Perm (upto L.length) := by
    refine List.Perm.trans ?_ hp
    rw [hO]
    refine (List.Perm.append_left A ?_).trans (by rw [List.append_assoc])
    show (top :: (b : Int) :: B).Perm (top :: B ++ [(b : Int)])
    exact (List.perm_append_singleton (b : Int) B).symm.cons top
  have hlen : ((L.set (L.length - 1) (subP p q)).map nmP).length = L.length := by rw [List.length_map, List.length_set]
  have hO' : ∀ x ∈ A ++ top :: (b : Int) :: B, x ∈ upto L.length := fun x hx => hp2.mem_iff.mp hx
  have en := named_eq r ((L.set (L.length - 1) (subP p q)).map nmP) (A ++ top :: (b : Int) :: B) (upto L.length) (.list ((A ++ top :: (b : Int) :: B).map PyData.int)) (.inl rfl) (fun x hx => at_all hlen hx) (upto_nodup _) hO' (by rw [upto_length]; omega) (by rw [hp2.length_eq, upto_length]; omega)
  rw [all_upto hlen, pos_upto hO'] at en
  exact step_by e en
theorem step1 {r : Int} {L : List Pr} {O : List Int} {p q : Pr} {b : Nat} (h2 : O.getLast? = some (b : Int)) (hb : b + 1 < L.length) (hp : O.Perm (upto L.length)) (h0 : 1 ≤ L.length) (hl : L.length ≤ 400) (h1 : L.getLast? = some p) (h3 : L[b]? = some q) (hne : p ≠ q) (hr : okRoot r) (hz : r = 0 → q.2 = 0 ∧ p.2 = 0) (bp : BtP 700 p) (bq : BtP 700 q)
    (hlt : ltP r q p = false) :
    d_p_step_of [.dat (chN r L O)] = some (.inr (false, .tuple [.int 1, chN r (lonA L.length b (L.set b (subP q p))) (ordA L.length b O)]), [.no]) := by
  have e := rows1 h2 hb hp h0 hl h1 h3 hne hr hz bp bq hlt
  have hlen : ((L.set b (subP q p)).map nmP).length = L.length := by rw [List.length_map, List.length_set]
  have hO' : ∀ x ∈ O, x ∈ upto L.length := fun x hx => hp.mem_iff.mp hx
  have ha := ahL_perm (n := L.length) (k := b) hb
  have en := named_eq r ((L.set b (subP q p)).map nmP) O (ahL L.length b) (.list (O.map PyData.int)) (.inl rfl) (fun x hx => at_all hlen (ha.mem_iff.mp hx)) (ha.nodup_iff.mpr (upto_nodup _)) (fun x hx => ha.mem_iff.mpr (hO' x hx)) (by rw [ha.length_eq, upto_length]; omega) (by rw [hp.length_eq, upto_length]; omega)
  rw [lonA_D (by rw [List.length_set]) hb, ordA_eq hb hO'] at en
  exact step_by e en
/-! ### behind a step -/
theorem lonA_perm {n k : Nat} {M : List Pr} (hl : M.length = n) (h : k + 1 < n) : (lonA n k M).Perm M := by
  have e : lonA n k M = ((List.range n).map (ahf n k)).map fun i => (M[i]?).getD (0, 0) := by unfold lonA; rw [List.map_map]; rfl
  have e2 : (List.range n).map (fun i => (M[i]?).getD (0, 0)) = M := by
    apply List.ext_getElem?
    intro j
    by_cases hj : j < n
    · rw [List.getElem?_map, List.getElem?_range hj, List.getElem?_eq_getElem (by omega)]
      show some ((M[j]?).getD (0, 0)) = _
      rw [List.getElem?_eq_getElem (by omega)]
      rfl
    · rw [List.getElem?_eq_none (by rw [List.length_map, List.length_range]; omega), List.getElem?_eq_none (by omega)]
  rw [e]
  conv => rhs; rw [← e2]
  refine List.Perm.map _ ?_
  refine (perm_of_sub List.nodup_range (fun x hx => ?_) (by rw [List.length_map])).symm
  have hx' := List.mem_range.mp hx
  obtain ⟨a, b, c, d⟩ := row_ah (j := x) h hx'
  exact List.mem_map.mpr ⟨rowf n k x, List.mem_range.mpr d, b⟩
theorem mem_set {α : Type} {l : List α} {i : Nat} {x y : α} (h : x ∈ l.set i y) : x = y ∨ x ∈ l := by
  rcases List.mem_or_eq_of_mem_set h with h | h
  · exact .inr h
  · exact .inl h
theorem ltP_zero {r : Int} {p q : Pr} (hp : p.2 = 0) (hq : q.2 = 0) : ltP r p q = decide (p.1 < q.1) := by
  unfold ltP negV
  rw [hp, hq]
  by_cases h : p.1 < q.1
  · rw [if_neg (by omega), if_pos (by omega), decide_eq_true h]
  · rw [if_pos (by omega), decide_eq_false h]
/-! ### the law's step -/
theorem ins_at {l : List Int} {k : Nat} {x : Int} (hk : k ≤ 1000) (hl : l.length ≤ 900) : hIns (l.map PyData.int) [.int ((k : Nat) : Int), .int x] = some (.none, (l.take k ++ [x] ++ l.drop k).map PyData.int) := by
  have h1 : decide ((l.map PyData.int).length < sizeLine) = true := decide_eq_true (by rw [List.length_map]; exact Nat.lt_of_lt_of_le (show l.length < 1001 by omega) (szl _ (by decide)))
  have h2 : decide ((0 : Int) ≤ ((k : Nat) : Int)) = true := decide_eq_true (by omega)
  have h3 : smI ((k : Nat) : Int) = true := smI_of (by omega) (by omega)
  simp only [hIns, h1, h2, h3, Bool.and_self, cond_true, Int.toNat_natCast, List.map_append, List.map_cons, List.map_nil, List.map_take, List.map_drop]
theorem pop_last {l : List Int} {x : Int} (h : l.getLast? = some x) : hPop (l.map PyData.int) [] = some (.int x, l.dropLast.map PyData.int) := by
  rw [List.getLast?_eq_getElem?] at h
  have : (l.map PyData.int)[(l.map PyData.int).length - 1]? = some (.int x) := by
    rw [List.length_map, List.getElem?_map, h]
    rfl
  simp only [hPop, this, List.map_dropLast]
theorem upto_pop {n : Nat} (h : 1 ≤ n) : hPop ((upto n).map PyData.int) [] = some (.int ((n : Int) - 1), (upto (n - 1)).map PyData.int) := by
  have e : (upto n).getLast? = some ((n : Int) - 1) := by
    rw [List.getLast?_eq_getElem?, upto_length, upto_get (by omega)]
    congr 1
    omega
  rw [pop_last e]
  have : (upto n).dropLast = upto (n - 1) := by
    unfold upto
    rw [← List.map_dropLast]
    congr 1
    apply List.ext_getElem?
    intro i
    rw [List.getElem?_dropLast, List.length_range]
    by_cases hi : i < n - 1
    · rw [if_pos hi, List.getElem?_range (by omega), List.getElem?_range hi]
    · rw [if_neg hi, List.getElem?_eq_none (by rw [List.length_range]; omega)]
  rw [this]
/-- the ends of both ways: (sort, (root, the longs by ahead, the rear by ahead's places)) -/
theorem lesser_end (r : Int) (L new : List D) (O rear ahead : List Int) (top bot sort : Int) (hr : ∀ x ∈ ahead, ∃ d, atI new x = some d) (hn : ahead.Nodup) (ho : ∀ x ∈ rear, x ∈ ahead) (h1 : ahead.length ≤ 900) (h2 : rear.length ≤ 900) :
    sRet (fTup (dCons (fVar 9) (dCons (fTup (dCons (fVar 1) (dCons (fNm hTuple (fCons (fLc [10] (fiS (fD (fVar 7))) (kName 10) tYesF (fBin hIx (fVar 6) (fVar 10))) fNil)) (dCons (fNm hTuple (fCons (fLc [10] (fiS (fD (fVar 8))) (kName 10) tYesF (fIndex (fVar 7) (fVar 10))) fNil)) dNil)))) dNil)))
      [.dat (chD r L O), .dat (.int r), .dat (.tuple L), .dat (.tuple (O.map PyData.int)), .dat (.int top), .dat (.int bot), .own 0 (.list new), .own 0 (.list (ahead.map PyData.int)), .own 0 (.list (rear.map PyData.int)), .dat (.int sort), .no] =
    some (.ret false (.tuple [.int sort, .tuple [.int r, .tuple ((ahead.map PyData.int).map (getD0 new)), .tuple ((rear.map PyData.int).map (posD ahead))]]),
      [.dat (chD r L O), .dat (.int r), .dat (.tuple L), .dat (.tuple (O.map PyData.int)), .dat (.int top), .dat (.int bot), .own 0 (.list new), .dat (.list (ahead.map PyData.int)), .dat (.list (rear.map PyData.int)), .dat (.int sort), .no]) := by
  have er : fiS (fD (fVar 7)) [.dat (chD r L O), .dat (.int r), .dat (.tuple L), .dat (.tuple (O.map PyData.int)), .dat (.int top), .dat (.int bot), .own 0 (.list new), .own 0 (.list (ahead.map PyData.int)), .own 0 (.list (rear.map PyData.int)), .dat (.int sort), .no] = some (.inr (ahead.map PyData.int), [.dat (chD r L O), .dat (.int r), .dat (.tuple L), .dat (.tuple (O.map PyData.int)), .dat (.int top), .dat (.int bot), .own 0 (.list new), .dat (.list (ahead.map PyData.int)), .own 0 (.list (rear.map PyData.int)), .dat (.int sort), .no]) := by simp only [fiS, asS, mkFn, sCons, sSet, sPar, sUnp, sIf, sRet, sRetN, sDrop, sNil, sBrk, sCnt, bndS, bnd, rt, opt, fVar, fVal, fBin, fUn, rd1, rd2, Rv.rd, Sl.rd, fD, fzM, Rv.fz, fCons, fNil, dCons, dNil, aCons, aNil, aBoxN, aBox, fCall, resolve, boxes, bxpos, wb, fNm, rdAll, fTup, fLst, hAdd, hSub, hInt2, hMulL, hLt, hLe, hGt, hGe, hNeg, hAbs, hLen, hInt1, hMax2, hMin2, hIx, fSl, oNone, oSome, hSl, fB, toB, fAnd, fOr, fNot, fAndV, fOrV, fNotV, fChain, kName, kTup, kCons, kNil, slOk, sStore, fMt, mtGo, hApp, hFdiv, hMod, hDivmod, outs, List.length_cons, List.length_nil, List.getElem?_cons_zero, List.getElem?_cons_succ, List.getElem?_nil, List.set_cons_zero, List.set_cons_succ, List.replicate_succ, List.replicate_zero, List.cons_append, List.nil_append, Option.bind_some, Option.map_some, cond_true, cond_false, ite_true, ite_false, Nat.reduceAdd, Nat.reduceSub, Nat.reduceEqDiff, Nat.reduceLeDiff, if_true, if_false, reduceIte, atI_n0, atI_n1, atI_n2, atI_n3, ixN_10, ixN_20, ixN_21, hEq_int, hNe_int, Bool.not_true, decide_true, decide_false, hTuple, sTryK, sRaise, Bool.false_eq_true, Bool.not_false, sz0, sz1, sz2, sz3, sz4, sz5, sz6, sz7, sz8]
  have el := lcL_map (vs := [10]) (g := kName 10) (fe := fBin hIx (fVar 6) (fVar 10)) (getD0 new) [.dat (chD r L O), .dat (.int r), .dat (.tuple L), .dat (.tuple (O.map PyData.int)), .dat (.int top), .dat (.int bot), .own 0 (.list new), .dat (.list (ahead.map PyData.int)), .own 0 (.list (rear.map PyData.int)), .dat (.int sort), .no] (ahead.map PyData.int) [] (len900 ahead h1) (by
    intro d hd
    obtain ⟨x, hx, rfl⟩ := List.mem_map.mp hd
    obtain ⟨v, hv⟩ := hr x hx
    refine ⟨_, rfl, [.dat (chD r L O), .dat (.int r), .dat (.tuple L), .dat (.tuple (O.map PyData.int)), .dat (.int top), .dat (.int bot), .own 0 (.list new), .dat (.list (ahead.map PyData.int)), .own 0 (.list (rear.map PyData.int)), .dat (.int sort), .dat (.int x)], ?_, rfl⟩
    simp only [mkFn, sCons, sSet, sPar, sUnp, sIf, sRet, sRetN, sDrop, sNil, sBrk, sCnt, bndS, bnd, rt, opt, fVar, fVal, fBin, fUn, rd1, rd2, Rv.rd, Sl.rd, fD, fzM, Rv.fz, fCons, fNil, dCons, dNil, aCons, aNil, aBoxN, aBox, fCall, resolve, boxes, bxpos, wb, fNm, rdAll, fTup, fLst, hAdd, hSub, hInt2, hMulL, hLt, hLe, hGt, hGe, hNeg, hAbs, hLen, hInt1, hMax2, hMin2, hIx, fSl, oNone, oSome, hSl, fB, toB, fAnd, fOr, fNot, fAndV, fOrV, fNotV, fChain, kName, kTup, kCons, kNil, slOk, sStore, fMt, mtGo, hApp, hFdiv, hMod, hDivmod, outs, List.length_cons, List.length_nil, List.getElem?_cons_zero, List.getElem?_cons_succ, List.getElem?_nil, List.set_cons_zero, List.set_cons_succ, List.replicate_succ, List.replicate_zero, List.cons_append, List.nil_append, Option.bind_some, Option.map_some, cond_true, cond_false, ite_true, ite_false, Nat.reduceAdd, Nat.reduceSub, Nat.reduceEqDiff, Nat.reduceLeDiff, if_true, if_false, reduceIte, atI_n0, atI_n1, atI_n2, atI_n3, ixN_10, ixN_20, ixN_21, hEq_int, hNe_int, Bool.not_true, decide_true, decide_false, hTuple, sTryK, sRaise, Bool.false_eq_true, Bool.not_false, sz0, sz1, sz2, sz3, sz4, sz5, sz6, sz7, sz8, hv, getD0, Option.getD_some])
  rw [List.nil_append] at el
  have er2 : fiS (fD (fVar 8)) [.dat (chD r L O), .dat (.int r), .dat (.tuple L), .dat (.tuple (O.map PyData.int)), .dat (.int top), .dat (.int bot), .own 0 (.list new), .dat (.list (ahead.map PyData.int)), .own 0 (.list (rear.map PyData.int)), .dat (.int sort), .no] = some (.inr (rear.map PyData.int), [.dat (chD r L O), .dat (.int r), .dat (.tuple L), .dat (.tuple (O.map PyData.int)), .dat (.int top), .dat (.int bot), .own 0 (.list new), .dat (.list (ahead.map PyData.int)), .dat (.list (rear.map PyData.int)), .dat (.int sort), .no]) := by simp only [fiS, asS, mkFn, sCons, sSet, sPar, sUnp, sIf, sRet, sRetN, sDrop, sNil, sBrk, sCnt, bndS, bnd, rt, opt, fVar, fVal, fBin, fUn, rd1, rd2, Rv.rd, Sl.rd, fD, fzM, Rv.fz, fCons, fNil, dCons, dNil, aCons, aNil, aBoxN, aBox, fCall, resolve, boxes, bxpos, wb, fNm, rdAll, fTup, fLst, hAdd, hSub, hInt2, hMulL, hLt, hLe, hGt, hGe, hNeg, hAbs, hLen, hInt1, hMax2, hMin2, hIx, fSl, oNone, oSome, hSl, fB, toB, fAnd, fOr, fNot, fAndV, fOrV, fNotV, fChain, kName, kTup, kCons, kNil, slOk, sStore, fMt, mtGo, hApp, hFdiv, hMod, hDivmod, outs, List.length_cons, List.length_nil, List.getElem?_cons_zero, List.getElem?_cons_succ, List.getElem?_nil, List.set_cons_zero, List.set_cons_succ, List.replicate_succ, List.replicate_zero, List.cons_append, List.nil_append, Option.bind_some, Option.map_some, cond_true, cond_false, ite_true, ite_false, Nat.reduceAdd, Nat.reduceSub, Nat.reduceEqDiff, Nat.reduceLeDiff, if_true, if_false, reduceIte, atI_n0, atI_n1, atI_n2, atI_n3, ixN_10, ixN_20, ixN_21, hEq_int, hNe_int, Bool.not_true, decide_true, decide_false, hTuple, sTryK, sRaise, Bool.false_eq_true, Bool.not_false, sz0, sz1, sz2, sz3, sz4, sz5, sz6, sz7, sz8]
  have el2 := lcL_map (vs := [10]) (g := kName 10) (fe := fIndex (fVar 7) (fVar 10)) (posD ahead) [.dat (chD r L O), .dat (.int r), .dat (.tuple L), .dat (.tuple (O.map PyData.int)), .dat (.int top), .dat (.int bot), .own 0 (.list new), .dat (.list (ahead.map PyData.int)), .dat (.list (rear.map PyData.int)), .dat (.int sort), .no] (rear.map PyData.int) [] (len900 rear h2) (by
    intro d hd
    obtain ⟨x, hx, rfl⟩ := List.mem_map.mp hd
    refine ⟨[.dat (chD r L O), .dat (.int r), .dat (.tuple L), .dat (.tuple (O.map PyData.int)), .dat (.int top), .dat (.int bot), .own 0 (.list new), .dat (.list (ahead.map PyData.int)), .dat (.list (rear.map PyData.int)), .dat (.int sort), .dat (.int x)], rfl, [.dat (chD r L O), .dat (.int r), .dat (.tuple L), .dat (.tuple (O.map PyData.int)), .dat (.int top), .dat (.int bot), .own 0 (.list new), .dat (.list (ahead.map PyData.int)), .dat (.list (rear.map PyData.int)), .dat (.int sort), .dat (.int x)], ?_, rfl⟩
    have := fIndex_list (f := fVar 7) (g := fVar 10) (fs := [.dat (chD r L O), .dat (.int r), .dat (.tuple L), .dat (.tuple (O.map PyData.int)), .dat (.int top), .dat (.int bot), .own 0 (.list new), .dat (.list (ahead.map PyData.int)), .dat (.list (rear.map PyData.int)), .dat (.int sort), .dat (.int x)]) (x := .val (.list (ahead.map PyData.int))) (y := .val (.int x)) rfl rfl rfl rfl rfl hn (getElem_idxOf (ho x hx))
    unfold fD
    rw [bnd_inr this]
    rfl)
  rw [List.nil_append] at el2
  have e1 := fLc_of er el
  have e2 := fLc_of er2 el2
  generalize fLc [10] (fiS (fD (fVar 7))) (kName 10) tYesF (fBin hIx (fVar 6) (fVar 10)) = E1 at e1 ⊢
  generalize fLc [10] (fiS (fD (fVar 8))) (kName 10) tYesF (fIndex (fVar 7) (fVar 10)) = E2 at e2 ⊢
  simp only [mkFn, sCons, sSet, sPar, sUnp, sIf, sRet, sRetN, sDrop, sNil, sBrk, sCnt, bndS, bnd, rt, opt, fVar, fVal, fBin, fUn, rd1, rd2, Rv.rd, Sl.rd, fD, fzM, Rv.fz, fCons, fNil, dCons, dNil, aCons, aNil, aBoxN, aBox, fCall, resolve, boxes, bxpos, wb, fNm, rdAll, fTup, fLst, hAdd, hSub, hInt2, hMulL, hLt, hLe, hGt, hGe, hNeg, hAbs, hLen, hInt1, hMax2, hMin2, hIx, fSl, oNone, oSome, hSl, fB, toB, fAnd, fOr, fNot, fAndV, fOrV, fNotV, fChain, kName, kTup, kCons, kNil, slOk, sStore, fMt, mtGo, hApp, hFdiv, hMod, hDivmod, outs, List.length_cons, List.length_nil, List.getElem?_cons_zero, List.getElem?_cons_succ, List.getElem?_nil, List.set_cons_zero, List.set_cons_succ, List.replicate_succ, List.replicate_zero, List.cons_append, List.nil_append, Option.bind_some, Option.map_some, cond_true, cond_false, ite_true, ite_false, Nat.reduceAdd, Nat.reduceSub, Nat.reduceEqDiff, Nat.reduceLeDiff, if_true, if_false, reduceIte, atI_n0, atI_n1, atI_n2, atI_n3, ixN_10, ixN_20, ixN_21, hEq_int, hNe_int, Bool.not_true, decide_true, decide_false, hTuple, sTryK, sRaise, Bool.false_eq_true, Bool.not_false, sz0, sz1, sz2, sz3, sz4, sz5, sz6, sz7, sz8, e1, e2]
/-- the step of sort 0 -/
theorem lesser0 {r : Int} {L : List D} {A B : List Int} {top bot : Int} {p q s d e f x y z : Int} (hp : (A ++ top :: B ++ [bot]).Perm (upto L.length)) (hl : L.length ≤ 400) (ht : top = (L.length : Int) - 1)
    (hx : L[top.toNat]? = some (tup3 p q s)) (hy : L[bot.toNat]? = some (tup3 d e f)) (hs : 0 < s) (hf : 0 < f) (ba : Bt 900 p) (bb : Bt 900 q) (bc : Bt 900 s) (bd : Bt 900 d) (be : Bt 900 e) (bf : Bt 900 f) (br : Bt 60 r)
    (hne : ¬ (p = d ∧ q = e ∧ s = f)) (hd : lowD (p * f + (0 - d) * s) (q * f + (0 - e) * s) (s * f) = tup3 x y z) (hv : negV r x y = false) :
    d_lesser [.dat (chD r L (A ++ top :: B ++ [bot]))] = some (.inr (false, .tuple [.int 0, chD r (L.set top.toNat (tup3 x y z)) (A ++ top :: bot :: B)]), [.no]) := by
  have hn : (A ++ top :: B ++ [bot]).Nodup := hp.nodup_iff.mpr (upto_nodup _)
  have hlen : (A ++ top :: B ++ [bot]).length = L.length := by rw [hp.length_eq, upto_length]
  have mt := upto_mem.mp (hp.mem_iff.mp (show top ∈ A ++ top :: B ++ [bot] by simp))
  have ml := upto_mem.mp (hp.mem_iff.mp (show bot ∈ A ++ top :: B ++ [bot] by simp))
  have hb : (A ++ top :: B ++ [bot]).getLast? = some bot := by rw [List.getLast?_concat]
  have hdl : (A ++ top :: B ++ [bot]).dropLast = A ++ top :: B := by rw [List.dropLast_concat]
  have e1 := atI_last (last_map hb)
  have et : ((L.length : Nat) : Int) - 1 = top := ht.symm
  have at1 : atI L top = some (tup3 p q s) := by rw [show top = ((top.toNat : Nat) : Int) by omega, atI_natE]; exact hx
  have at2 : atI L bot = some (tup3 d e f) := by rw [show bot = ((bot.toNat : Nat) : Int) by omega, atI_natE]; exact hy
  have ixt : ixN L.length top = some top.toNat := by
    rw [show top = ((top.toNat : Nat) : Int) by omega, ixN_natE, if_pos (by omega)]
    rfl
  have eq1 := hEq_tup3 p q s d e f
  rw [decide_eq_false hne] at eq1
  have els := less_by hs hf ba bb bc bd be bf br hd
  rw [hv] at els
  have emi := minus_eq (a := p) (b := q) (c := s) (d := d) (e := e) (f := f) hs hf (ba.mono (by decide)) (bb.mono (by decide)) (bc.mono (by decide)) (bd.mono (by decide)) (be.mono (by decide)) (bf.mono (by decide))
  rw [hd] at emi
  have hnr : (A ++ top :: B).Nodup := by
    rw [List.nodup_append] at hn
    exact hn.1
  have ix1 : (A ++ top :: B)[A.length]? = some top := by simp
  have hrl : (A ++ top :: B).length + 1 = L.length := by
    rw [← hlen, List.length_append (as := A ++ top :: B)]
    rfl
  have hal : A.length + 1 ≤ (A ++ top :: B).length := by rw [List.length_append, List.length_cons]; omega
  have hins := ins_at (l := A ++ top :: B) (k := A.length + 1) (x := bot) (by omega) (by omega)
  have htk : (A ++ top :: B).take (A.length + 1) ++ [bot] ++ (A ++ top :: B).drop (A.length + 1) = A ++ top :: bot :: B := by
    have h0 : A ++ top :: B = (A ++ [top]) ++ B := by simp
    have hk : A.length + 1 = (A ++ [top]).length := by simp
    rw [h0, hk, List.take_left, List.drop_left]
    simp
  rw [htk] at hins
  have hpop := pop_last hb
  rw [hdl] at hpop
  have hset : (L.set top.toNat (tup3 x y z)).length = L.length := set_len
  have hor : ∀ w ∈ A ++ top :: bot :: B, w ∈ upto L.length := fun w hw => by
    refine hp.mem_iff.mp ?_
    simp at hw ⊢
    rcases hw with h | h | h | h
    · exact .inl h
    · exact .inr (.inl h)
    · exact .inr (.inr (.inr h))
    · exact .inr (.inr (.inl h))
  have hrl2 : (A ++ top :: bot :: B).length = L.length := by
    rw [← hlen]
    simp
  have hend := lesser_end r L (L.set top.toNat (tup3 x y z)) (A ++ top :: B ++ [bot]) (A ++ top :: bot :: B) (upto L.length) top bot 0 (fun w hw => by
    have hm := upto_mem.mp hw
    have : w.toNat < (L.set top.toNat (tup3 x y z)).length := by rw [hset]; omega
    exact ⟨_, by rw [show w = ((w.toNat : Nat) : Int) by omega, atI_natE]; exact List.getElem?_eq_getElem this⟩) (upto_nodup _) hor (by rw [upto_length]; omega) (by omega)
  rw [all_upto hset, pos_upto hor] at hend
  generalize hO : A ++ top :: B ++ [bot] = O at *
  let F : Sl → Sl → Sl → Sl → Fs := fun s6 s7 s8 s9 => [.dat (chD r L O), .dat (.int r), .dat (.tuple L), .dat (.tuple (O.map PyData.int)), .dat (.int top), .dat (.int bot), s6, s7, s8, s9, .no]
  unfold d_lesser
  refine mkFn_ret (fs := F (.own 0 (.list (L.set top.toNat (tup3 x y z)))) (.dat (.list ((upto L.length).map PyData.int))) (.dat (.list ((A ++ top :: bot :: B).map PyData.int))) (.dat (.int 0))) rfl ?_
  rw [sCons_nx (fs1 := [.dat (chD r L O), .dat (.int r), .dat (.tuple L), .dat (.tuple (O.map PyData.int)), .no, .no, .no, .no, .no, .no, .no]) (by simp only [mkFn, sCons, sSet, sPar, sUnp, sIf, sRet, sRetN, sDrop, sNil, sBrk, sCnt, bndS, bnd, rt, opt, fVar, fVal, fBin, fUn, rd1, rd2, Rv.rd, Sl.rd, fD, fzM, Rv.fz, fCons, fNil, dCons, dNil, aCons, aNil, aBoxN, aBox, fCall, resolve, boxes, bxpos, wb, fNm, rdAll, fTup, fLst, hAdd, hSub, hInt2, hMulL, hLt, hLe, hGt, hGe, hNeg, hAbs, hLen, hInt1, hMax2, hMin2, hIx, fSl, oNone, oSome, hSl, fB, toB, fAnd, fOr, fNot, fAndV, fOrV, fNotV, fChain, kName, kTup, kCons, kNil, slOk, sStore, fMt, mtGo, hApp, hFdiv, hMod, hDivmod, outs, List.length_cons, List.length_nil, List.getElem?_cons_zero, List.getElem?_cons_succ, List.getElem?_nil, List.set_cons_zero, List.set_cons_succ, List.replicate_succ, List.replicate_zero, List.cons_append, List.nil_append, Option.bind_some, Option.map_some, cond_true, cond_false, ite_true, ite_false, Nat.reduceAdd, Nat.reduceSub, Nat.reduceEqDiff, Nat.reduceLeDiff, if_true, if_false, reduceIte, atI_n0, atI_n1, atI_n2, atI_n3, ixN_10, ixN_20, ixN_21, hEq_int, hNe_int, Bool.not_true, decide_true, decide_false, hTuple, sTryK, sRaise, Bool.false_eq_true, Bool.not_false, sz0, sz1, sz2, sz3, sz4, sz5, sz6, sz7, sz8])]
  rw [sCons_nx (fs1 := [.dat (chD r L O), .dat (.int r), .dat (.tuple L), .dat (.tuple (O.map PyData.int)), .dat (.int top), .no, .no, .no, .no, .no, .no]) (by simp only [mkFn, sCons, sSet, sPar, sUnp, sIf, sRet, sRetN, sDrop, sNil, sBrk, sCnt, bndS, bnd, rt, opt, fVar, fVal, fBin, fUn, rd1, rd2, Rv.rd, Sl.rd, fD, fzM, Rv.fz, fCons, fNil, dCons, dNil, aCons, aNil, aBoxN, aBox, fCall, resolve, boxes, bxpos, wb, fNm, rdAll, fTup, fLst, hAdd, hSub, hInt2, hMulL, hLt, hLe, hGt, hGe, hNeg, hAbs, hLen, hInt1, hMax2, hMin2, hIx, fSl, oNone, oSome, hSl, fB, toB, fAnd, fOr, fNot, fAndV, fOrV, fNotV, fChain, kName, kTup, kCons, kNil, slOk, sStore, fMt, mtGo, hApp, hFdiv, hMod, hDivmod, outs, List.length_cons, List.length_nil, List.getElem?_cons_zero, List.getElem?_cons_succ, List.getElem?_nil, List.set_cons_zero, List.set_cons_succ, List.replicate_succ, List.replicate_zero, List.cons_append, List.nil_append, Option.bind_some, Option.map_some, cond_true, cond_false, ite_true, ite_false, Nat.reduceAdd, Nat.reduceSub, Nat.reduceEqDiff, Nat.reduceLeDiff, if_true, if_false, reduceIte, atI_n0, atI_n1, atI_n2, atI_n3, ixN_10, ixN_20, ixN_21, hEq_int, hNe_int, Bool.not_true, decide_true, decide_false, hTuple, sTryK, sRaise, Bool.false_eq_true, Bool.not_false, sz0, sz1, sz2, sz3, sz4, sz5, sz6, sz7, sz8, et])]
  rw [sCons_nx (fs1 := F .no .no .no .no) (by simp only [mkFn, sCons, sSet, sPar, sUnp, sIf, sRet, sRetN, sDrop, sNil, sBrk, sCnt, bndS, bnd, rt, opt, fVar, fVal, fBin, fUn, rd1, rd2, Rv.rd, Sl.rd, fD, fzM, Rv.fz, fCons, fNil, dCons, dNil, aCons, aNil, aBoxN, aBox, fCall, resolve, boxes, bxpos, wb, fNm, rdAll, fTup, fLst, hAdd, hSub, hInt2, hMulL, hLt, hLe, hGt, hGe, hNeg, hAbs, hLen, hInt1, hMax2, hMin2, hIx, fSl, oNone, oSome, hSl, fB, toB, fAnd, fOr, fNot, fAndV, fOrV, fNotV, fChain, kName, kTup, kCons, kNil, slOk, sStore, fMt, mtGo, hApp, hFdiv, hMod, hDivmod, outs, List.length_cons, List.length_nil, List.getElem?_cons_zero, List.getElem?_cons_succ, List.getElem?_nil, List.set_cons_zero, List.set_cons_succ, List.replicate_succ, List.replicate_zero, List.cons_append, List.nil_append, Option.bind_some, Option.map_some, cond_true, cond_false, ite_true, ite_false, Nat.reduceAdd, Nat.reduceSub, Nat.reduceEqDiff, Nat.reduceLeDiff, if_true, if_false, reduceIte, atI_n0, atI_n1, atI_n2, atI_n3, ixN_10, ixN_20, ixN_21, hEq_int, hNe_int, Bool.not_true, decide_true, decide_false, hTuple, sTryK, sRaise, Bool.false_eq_true, Bool.not_false, sz0, sz1, sz2, sz3, sz4, sz5, sz6, sz7, sz8, e1, F])]
  rw [sCons_nx (fs1 := F .no .no .no .no) (by simp only [F]; simp only [mkFn, sCons, sSet, sPar, sUnp, sIf, sRet, sRetN, sDrop, sNil, sBrk, sCnt, bndS, bnd, rt, opt, fVar, fVal, fBin, fUn, rd1, rd2, Rv.rd, Sl.rd, fD, fzM, Rv.fz, fCons, fNil, dCons, dNil, aCons, aNil, aBoxN, aBox, fCall, resolve, boxes, bxpos, wb, fNm, rdAll, fTup, fLst, hAdd, hSub, hInt2, hMulL, hLt, hLe, hGt, hGe, hNeg, hAbs, hLen, hInt1, hMax2, hMin2, hIx, fSl, oNone, oSome, hSl, fB, toB, fAnd, fOr, fNot, fAndV, fOrV, fNotV, fChain, kName, kTup, kCons, kNil, slOk, sStore, fMt, mtGo, hApp, hFdiv, hMod, hDivmod, outs, List.length_cons, List.length_nil, List.getElem?_cons_zero, List.getElem?_cons_succ, List.getElem?_nil, List.set_cons_zero, List.set_cons_succ, List.replicate_succ, List.replicate_zero, List.cons_append, List.nil_append, Option.bind_some, Option.map_some, cond_true, cond_false, ite_true, ite_false, Nat.reduceAdd, Nat.reduceSub, Nat.reduceEqDiff, Nat.reduceLeDiff, if_true, if_false, reduceIte, atI_n0, atI_n1, atI_n2, atI_n3, ixN_10, ixN_20, ixN_21, hEq_int, hNe_int, Bool.not_true, decide_true, decide_false, hTuple, sTryK, sRaise, Bool.false_eq_true, Bool.not_false, sz0, sz1, sz2, sz3, sz4, sz5, sz6, sz7, sz8, at1, at2, eq1])]
  rw [sCons_nx (fs1 := F (.own 0 (.list L)) .no .no .no) (by simp only [mkFn, sCons, sSet, sPar, sUnp, sIf, sRet, sRetN, sDrop, sNil, sBrk, sCnt, bndS, bnd, rt, opt, fVar, fVal, fBin, fUn, rd1, rd2, Rv.rd, Sl.rd, fD, fzM, Rv.fz, fCons, fNil, dCons, dNil, aCons, aNil, aBoxN, aBox, fCall, resolve, boxes, bxpos, wb, fNm, rdAll, fTup, fLst, hAdd, hSub, hInt2, hMulL, hLt, hLe, hGt, hGe, hNeg, hAbs, hLen, hInt1, hMax2, hMin2, hIx, fSl, oNone, oSome, hSl, fB, toB, fAnd, fOr, fNot, fAndV, fOrV, fNotV, fChain, kName, kTup, kCons, kNil, slOk, sStore, fMt, mtGo, hApp, hFdiv, hMod, hDivmod, outs, List.length_cons, List.length_nil, List.getElem?_cons_zero, List.getElem?_cons_succ, List.getElem?_nil, List.set_cons_zero, List.set_cons_succ, List.replicate_succ, List.replicate_zero, List.cons_append, List.nil_append, Option.bind_some, Option.map_some, cond_true, cond_false, ite_true, ite_false, Nat.reduceAdd, Nat.reduceSub, Nat.reduceEqDiff, Nat.reduceLeDiff, if_true, if_false, reduceIte, atI_n0, atI_n1, atI_n2, atI_n3, ixN_10, ixN_20, ixN_21, hEq_int, hNe_int, Bool.not_true, decide_true, decide_false, hTuple, sTryK, sRaise, Bool.false_eq_true, Bool.not_false, sz0, sz1, sz2, sz3, sz4, sz5, sz6, sz7, sz8, hList, F])]
  rw [sCons_nx (fs1 := F (.own 0 (.list L)) (.own 0 (.list ((upto L.length).map PyData.int))) .no .no) (by simp only [mkFn, sCons, sSet, sPar, sUnp, sIf, sRet, sRetN, sDrop, sNil, sBrk, sCnt, bndS, bnd, rt, opt, fVar, fVal, fBin, fUn, rd1, rd2, Rv.rd, Sl.rd, fD, fzM, Rv.fz, fCons, fNil, dCons, dNil, aCons, aNil, aBoxN, aBox, fCall, resolve, boxes, bxpos, wb, fNm, rdAll, fTup, fLst, hAdd, hSub, hInt2, hMulL, hLt, hLe, hGt, hGe, hNeg, hAbs, hLen, hInt1, hMax2, hMin2, hIx, fSl, oNone, oSome, hSl, fB, toB, fAnd, fOr, fNot, fAndV, fOrV, fNotV, fChain, kName, kTup, kCons, kNil, slOk, sStore, fMt, mtGo, hApp, hFdiv, hMod, hDivmod, outs, List.length_cons, List.length_nil, List.getElem?_cons_zero, List.getElem?_cons_succ, List.getElem?_nil, List.set_cons_zero, List.set_cons_succ, List.replicate_succ, List.replicate_zero, List.cons_append, List.nil_append, Option.bind_some, Option.map_some, cond_true, cond_false, ite_true, ite_false, Nat.reduceAdd, Nat.reduceSub, Nat.reduceEqDiff, Nat.reduceLeDiff, if_true, if_false, reduceIte, atI_n0, atI_n1, atI_n2, atI_n3, ixN_10, ixN_20, ixN_21, hEq_int, hNe_int, Bool.not_true, decide_true, decide_false, hTuple, sTryK, sRaise, Bool.false_eq_true, Bool.not_false, sz0, sz1, sz2, sz3, sz4, sz5, sz6, sz7, sz8, hLR1_nat (show L.length ≤ 1000 by omega), F])]
  rw [sCons_nx (fs1 := F (.own 0 (.list L)) (.own 0 (.list ((upto L.length).map PyData.int))) (.own 0 (.list (O.map PyData.int))) .no) (by simp only [mkFn, sCons, sSet, sPar, sUnp, sIf, sRet, sRetN, sDrop, sNil, sBrk, sCnt, bndS, bnd, rt, opt, fVar, fVal, fBin, fUn, rd1, rd2, Rv.rd, Sl.rd, fD, fzM, Rv.fz, fCons, fNil, dCons, dNil, aCons, aNil, aBoxN, aBox, fCall, resolve, boxes, bxpos, wb, fNm, rdAll, fTup, fLst, hAdd, hSub, hInt2, hMulL, hLt, hLe, hGt, hGe, hNeg, hAbs, hLen, hInt1, hMax2, hMin2, hIx, fSl, oNone, oSome, hSl, fB, toB, fAnd, fOr, fNot, fAndV, fOrV, fNotV, fChain, kName, kTup, kCons, kNil, slOk, sStore, fMt, mtGo, hApp, hFdiv, hMod, hDivmod, outs, List.length_cons, List.length_nil, List.getElem?_cons_zero, List.getElem?_cons_succ, List.getElem?_nil, List.set_cons_zero, List.set_cons_succ, List.replicate_succ, List.replicate_zero, List.cons_append, List.nil_append, Option.bind_some, Option.map_some, cond_true, cond_false, ite_true, ite_false, Nat.reduceAdd, Nat.reduceSub, Nat.reduceEqDiff, Nat.reduceLeDiff, if_true, if_false, reduceIte, atI_n0, atI_n1, atI_n2, atI_n3, ixN_10, ixN_20, ixN_21, hEq_int, hNe_int, Bool.not_true, decide_true, decide_false, hTuple, sTryK, sRaise, Bool.false_eq_true, Bool.not_false, sz0, sz1, sz2, sz3, sz4, sz5, sz6, sz7, sz8, hList, F])]
  rw [sCons_nx (fs1 := F (.own 0 (.list L)) (.own 0 (.list ((upto L.length).map PyData.int))) (.own 0 (.list (O.map PyData.int))) (.dat (.int 0))) (by simp only [F]; simp only [mkFn, sCons, sSet, sPar, sUnp, sIf, sRet, sRetN, sDrop, sNil, sBrk, sCnt, bndS, bnd, rt, opt, fVar, fVal, fBin, fUn, rd1, rd2, Rv.rd, Sl.rd, fD, fzM, Rv.fz, fCons, fNil, dCons, dNil, aCons, aNil, aBoxN, aBox, fCall, resolve, boxes, bxpos, wb, fNm, rdAll, fTup, fLst, hAdd, hSub, hInt2, hMulL, hLt, hLe, hGt, hGe, hNeg, hAbs, hLen, hInt1, hMax2, hMin2, hIx, fSl, oNone, oSome, hSl, fB, toB, fAnd, fOr, fNot, fAndV, fOrV, fNotV, fChain, kName, kTup, kCons, kNil, slOk, sStore, fMt, mtGo, hApp, hFdiv, hMod, hDivmod, outs, List.length_cons, List.length_nil, List.getElem?_cons_zero, List.getElem?_cons_succ, List.getElem?_nil, List.set_cons_zero, List.set_cons_succ, List.replicate_succ, List.replicate_zero, List.cons_append, List.nil_append, Option.bind_some, Option.map_some, cond_true, cond_false, ite_true, ite_false, Nat.reduceAdd, Nat.reduceSub, Nat.reduceEqDiff, Nat.reduceLeDiff, if_true, if_false, reduceIte, atI_n0, atI_n1, atI_n2, atI_n3, ixN_10, ixN_20, ixN_21, hEq_int, hNe_int, Bool.not_true, decide_true, decide_false, hTuple, sTryK, sRaise, Bool.false_eq_true, Bool.not_false, sz0, sz1, sz2, sz3, sz4, sz5, sz6, sz7, sz8, at1, at2, els])]
  rw [sCons_nx (fs1 := F (.own 0 (.list (L.set top.toNat (tup3 x y z)))) (.own 0 (.list ((upto L.length).map PyData.int))) (.own 0 (.list ((A ++ top :: bot :: B).map PyData.int))) (.dat (.int 0))) (by
    rw [sIf_t (fs1 := F (.own 0 (.list L)) (.own 0 (.list ((upto L.length).map PyData.int))) (.own 0 (.list (O.map PyData.int))) (.dat (.int 0))) (by simp only [mkFn, sCons, sSet, sPar, sUnp, sIf, sRet, sRetN, sDrop, sNil, sBrk, sCnt, bndS, bnd, rt, opt, fVar, fVal, fBin, fUn, rd1, rd2, Rv.rd, Sl.rd, fD, fzM, Rv.fz, fCons, fNil, dCons, dNil, aCons, aNil, aBoxN, aBox, fCall, resolve, boxes, bxpos, wb, fNm, rdAll, fTup, fLst, hAdd, hSub, hInt2, hMulL, hLt, hLe, hGt, hGe, hNeg, hAbs, hLen, hInt1, hMax2, hMin2, hIx, fSl, oNone, oSome, hSl, fB, toB, fAnd, fOr, fNot, fAndV, fOrV, fNotV, fChain, kName, kTup, kCons, kNil, slOk, sStore, fMt, mtGo, hApp, hFdiv, hMod, hDivmod, outs, List.length_cons, List.length_nil, List.getElem?_cons_zero, List.getElem?_cons_succ, List.getElem?_nil, List.set_cons_zero, List.set_cons_succ, List.replicate_succ, List.replicate_zero, List.cons_append, List.nil_append, Option.bind_some, Option.map_some, cond_true, cond_false, ite_true, ite_false, Nat.reduceAdd, Nat.reduceSub, Nat.reduceEqDiff, Nat.reduceLeDiff, if_true, if_false, reduceIte, atI_n0, atI_n1, atI_n2, atI_n3, ixN_10, ixN_20, ixN_21, hEq_int, hNe_int, Bool.not_true, decide_true, decide_false, hTuple, sTryK, sRaise, Bool.false_eq_true, Bool.not_false, sz0, sz1, sz2, sz3, sz4, sz5, sz6, sz7, sz8, F])]
    rw [sCons_nx (fs1 := F (.own 0 (.list (L.set top.toNat (tup3 x y z)))) (.own 0 (.list ((upto L.length).map PyData.int))) (.own 0 (.list (O.map PyData.int))) (.dat (.int 0))) (by simp only [F]; simp only [mkFn, sCons, sSet, sPar, sUnp, sIf, sRet, sRetN, sDrop, sNil, sBrk, sCnt, bndS, bnd, rt, opt, fVar, fVal, fBin, fUn, rd1, rd2, Rv.rd, Sl.rd, fD, fzM, Rv.fz, fCons, fNil, dCons, dNil, aCons, aNil, aBoxN, aBox, fCall, resolve, boxes, bxpos, wb, fNm, rdAll, fTup, fLst, hAdd, hSub, hInt2, hMulL, hLt, hLe, hGt, hGe, hNeg, hAbs, hLen, hInt1, hMax2, hMin2, hIx, fSl, oNone, oSome, hSl, fB, toB, fAnd, fOr, fNot, fAndV, fOrV, fNotV, fChain, kName, kTup, kCons, kNil, slOk, sStore, fMt, mtGo, hApp, hFdiv, hMod, hDivmod, outs, List.length_cons, List.length_nil, List.getElem?_cons_zero, List.getElem?_cons_succ, List.getElem?_nil, List.set_cons_zero, List.set_cons_succ, List.replicate_succ, List.replicate_zero, List.cons_append, List.nil_append, Option.bind_some, Option.map_some, cond_true, cond_false, ite_true, ite_false, Nat.reduceAdd, Nat.reduceSub, Nat.reduceEqDiff, Nat.reduceLeDiff, if_true, if_false, reduceIte, atI_n0, atI_n1, atI_n2, atI_n3, ixN_10, ixN_20, ixN_21, hEq_int, hNe_int, Bool.not_true, decide_true, decide_false, hTuple, sTryK, sRaise, Bool.false_eq_true, Bool.not_false, sz0, sz1, sz2, sz3, sz4, sz5, sz6, sz7, sz8, at1, at2, emi, ixt])]
    rw [sCons_nx (fs1 := F (.own 0 (.list (L.set top.toNat (tup3 x y z)))) (.own 0 (.list ((upto L.length).map PyData.int))) (.own 0 (.list ((A ++ top :: B).map PyData.int))) (.dat (.int 0))) (by simp only [F]; simp only [mkFn, sCons, sSet, sPar, sUnp, sIf, sRet, sRetN, sDrop, sNil, sBrk, sCnt, bndS, bnd, rt, opt, fVar, fVal, fBin, fUn, rd1, rd2, Rv.rd, Sl.rd, fD, fzM, Rv.fz, fCons, fNil, dCons, dNil, aCons, aNil, aBoxN, aBox, fCall, resolve, boxes, bxpos, wb, fNm, rdAll, fTup, fLst, hAdd, hSub, hInt2, hMulL, hLt, hLe, hGt, hGe, hNeg, hAbs, hLen, hInt1, hMax2, hMin2, hIx, fSl, oNone, oSome, hSl, fB, toB, fAnd, fOr, fNot, fAndV, fOrV, fNotV, fChain, kName, kTup, kCons, kNil, slOk, sStore, fMt, mtGo, hApp, hFdiv, hMod, hDivmod, outs, List.length_cons, List.length_nil, List.getElem?_cons_zero, List.getElem?_cons_succ, List.getElem?_nil, List.set_cons_zero, List.set_cons_succ, List.replicate_succ, List.replicate_zero, List.cons_append, List.nil_append, Option.bind_some, Option.map_some, cond_true, cond_false, ite_true, ite_false, Nat.reduceAdd, Nat.reduceSub, Nat.reduceEqDiff, Nat.reduceLeDiff, if_true, if_false, reduceIte, atI_n0, atI_n1, atI_n2, atI_n3, ixN_10, ixN_20, ixN_21, hEq_int, hNe_int, Bool.not_true, decide_true, decide_false, hTuple, sTryK, sRaise, Bool.false_eq_true, Bool.not_false, sz0, sz1, sz2, sz3, sz4, sz5, sz6, sz7, sz8, hpop])]
    have eix := fIndex_list (f := fVar 8) (g := fVar 4) (fs := F (.own 0 (.list (L.set top.toNat (tup3 x y z)))) (.own 0 (.list ((upto L.length).map PyData.int))) (.own 0 (.list ((A ++ top :: B).map PyData.int))) (.dat (.int 0))) (x := .slot 8) (y := .val (.int top)) rfl rfl rfl rfl rfl hnr ix1
    have ek : ((A.length : Nat) : Int) + 1 = ((A.length + 1 : Nat) : Int) := by omega
    generalize fIndex (fVar 8) (fVar 4) = E at eix ⊢
    simp only [F] at eix ⊢
    simp only [mkFn, sCons, sSet, sPar, sUnp, sIf, sRet, sRetN, sDrop, sNil, sBrk, sCnt, bndS, bnd, rt, opt, fVar, fVal, fBin, fUn, rd1, rd2, Rv.rd, Sl.rd, fD, fzM, Rv.fz, fCons, fNil, dCons, dNil, aCons, aNil, aBoxN, aBox, fCall, resolve, boxes, bxpos, wb, fNm, rdAll, fTup, fLst, hAdd, hSub, hInt2, hMulL, hLt, hLe, hGt, hGe, hNeg, hAbs, hLen, hInt1, hMax2, hMin2, hIx, fSl, oNone, oSome, hSl, fB, toB, fAnd, fOr, fNot, fAndV, fOrV, fNotV, fChain, kName, kTup, kCons, kNil, slOk, sStore, fMt, mtGo, hApp, hFdiv, hMod, hDivmod, outs, List.length_cons, List.length_nil, List.getElem?_cons_zero, List.getElem?_cons_succ, List.getElem?_nil, List.set_cons_zero, List.set_cons_succ, List.replicate_succ, List.replicate_zero, List.cons_append, List.nil_append, Option.bind_some, Option.map_some, cond_true, cond_false, ite_true, ite_false, Nat.reduceAdd, Nat.reduceSub, Nat.reduceEqDiff, Nat.reduceLeDiff, if_true, if_false, reduceIte, atI_n0, atI_n1, atI_n2, atI_n3, ixN_10, ixN_20, ixN_21, hEq_int, hNe_int, Bool.not_true, decide_true, decide_false, hTuple, sTryK, sRaise, Bool.false_eq_true, Bool.not_false, sz0, sz1, sz2, sz3, sz4, sz5, sz6, sz7, sz8, eix, ek, hins])]
  exact hend
/-- the step of sort 1 -/
theorem lesser1 {r : Int} {L : List D} {O : List Int} {top : Int} {bot : Nat} {p q s d e f u v w x y z : Int} (hp : O.Perm (upto L.length)) (hl : L.length ≤ 400) (ht : top = (L.length : Int) - 1) (hb : O.getLast? = some (bot : Int)) (hbt : (bot : Int) ≠ top)
    (hx : L[top.toNat]? = some (tup3 p q s)) (hy : L[bot]? = some (tup3 d e f)) (hs : 0 < s) (hf : 0 < f) (ba : Bt 900 p) (bb : Bt 900 q) (bc : Bt 900 s) (bd : Bt 900 d) (be : Bt 900 e) (bf : Bt 900 f) (br : Bt 60 r)
    (hne : ¬ (p = d ∧ q = e ∧ s = f)) (hd : lowD (p * f + (0 - d) * s) (q * f + (0 - e) * s) (s * f) = tup3 u v w) (hv : negV r u v = true) (hd2 : lowD (d * s + (0 - p) * f) (e * s + (0 - q) * f) (f * s) = tup3 x y z) :
    d_lesser [.dat (chD r L O)] = some (.inr (false, .tuple [.int 1, .tuple [.int r, .tuple (((upto (bot + 1) ++ [top] ++ (upto (L.length - 1)).drop (bot + 1)).map PyData.int).map (getD0 (L.set bot (tup3 x y z)))),
      .tuple ((O.map PyData.int).map (posD (upto (bot + 1) ++ [top] ++ (upto (L.length - 1)).drop (bot + 1))))]]), [.no]) := by
  have hn : O.Nodup := hp.nodup_iff.mpr (upto_nodup _)
  have hlen : O.length = L.length := by rw [hp.length_eq, upto_length]
  have ml := upto_mem.mp (hp.mem_iff.mp (List.mem_of_getLast? hb))
  have e1 := atI_last (last_map hb)
  have et : ((L.length : Nat) : Int) - 1 = top := ht.symm
  have hb2 : bot + 1 < L.length := by omega
  have at1 : atI L top = some (tup3 p q s) := by rw [show top = ((top.toNat : Nat) : Int) by omega, atI_natE]; exact hx
  have at2 : atI L ((bot : Nat) : Int) = some (tup3 d e f) := by rw [atI_natE]; exact hy
  have ixb : ixN L.length ((bot : Nat) : Int) = some bot := by rw [ixN_natE, if_pos (by omega)]
  have eq1 := hEq_tup3 p q s d e f
  rw [decide_eq_false hne] at eq1
  have els := less_by hs hf ba bb bc bd be bf br hd
  rw [hv] at els
  have emi := minus_eq (a := d) (b := e) (c := f) (d := p) (e := q) (f := s) hf hs (bd.mono (by decide)) (be.mono (by decide)) (bf.mono (by decide)) (ba.mono (by decide)) (bb.mono (by decide)) (bc.mono (by decide))
  rw [hd2] at emi
  have ix1 : (upto (L.length - 1))[bot]? = some (bot : Int) := upto_get (by omega)
  have hins := ins_at (l := upto (L.length - 1)) (k := bot + 1) (x := top) (by omega) (by rw [upto_length]; omega)
  have htk : (upto (L.length - 1)).take (bot + 1) = upto (bot + 1) := by
    unfold upto
    rw [← List.map_take, List.take_range]
    congr 2
    omega
  rw [htk] at hins
  have hpop := upto_pop (n := L.length) (by omega)
  have hset : (L.set bot (tup3 x y z)).length = L.length := set_len
  have hap : (upto (bot + 1) ++ [top] ++ (upto (L.length - 1)).drop (bot + 1)).Perm (upto L.length) := by
    have h1 : (upto (bot + 1) ++ (upto (L.length - 1)).drop (bot + 1)) = upto (L.length - 1) := by
      rw [← htk, List.take_append_drop]
    have h2 : upto L.length = upto (L.length - 1) ++ [top] := by
      have := upto_add (L.length - 1) 1
      rw [show L.length - 1 + 1 = L.length by omega] at this
      rw [this]
      congr 1
      show [(0 : Int) + ((L.length - 1 : Nat) : Int)] = [top]
      congr 1
      omega
    rw [h2]
    refine List.Perm.trans (l₂ := upto (bot + 1) ++ (upto (L.length - 1)).drop (bot + 1) ++ [top]) ?_ (by rw [h1])
    rw [List.append_assoc, List.append_assoc]
    exact List.Perm.append_left _ List.perm_append_comm
  have hend := lesser_end r L (L.set bot (tup3 x y z)) O O (upto (bot + 1) ++ [top] ++ (upto (L.length - 1)).drop (bot + 1)) top bot 1 (fun w hw => by
    have hm := upto_mem.mp (hap.mem_iff.mp hw)
    have : w.toNat < (L.set bot (tup3 x y z)).length := by rw [hset]; omega
    exact ⟨_, by rw [show w = ((w.toNat : Nat) : Int) by omega, atI_natE]; exact List.getElem?_eq_getElem this⟩) (hap.nodup_iff.mpr (upto_nodup _)) (fun w hw => hap.mem_iff.mpr (hp.mem_iff.mp hw)) (by rw [hap.length_eq, upto_length]; omega) (by omega)
  generalize upto (bot + 1) ++ [top] ++ (upto (L.length - 1)).drop (bot + 1) = AH at *
  let F : Sl → Sl → Sl → Sl → Fs := fun s6 s7 s8 s9 => [.dat (chD r L O), .dat (.int r), .dat (.tuple L), .dat (.tuple (O.map PyData.int)), .dat (.int top), .dat (.int (bot : Nat)), s6, s7, s8, s9, .no]
  unfold d_lesser
  refine mkFn_ret (fs := F (.own 0 (.list (L.set bot (tup3 x y z)))) (.dat (.list (AH.map PyData.int))) (.dat (.list (O.map PyData.int))) (.dat (.int 1))) rfl ?_
  rw [sCons_nx (fs1 := [.dat (chD r L O), .dat (.int r), .dat (.tuple L), .dat (.tuple (O.map PyData.int)), .no, .no, .no, .no, .no, .no, .no]) (by simp only [mkFn, sCons, sSet, sPar, sUnp, sIf, sRet, sRetN, sDrop, sNil, sBrk, sCnt, bndS, bnd, rt, opt, fVar, fVal, fBin, fUn, rd1, rd2, Rv.rd, Sl.rd, fD, fzM, Rv.fz, fCons, fNil, dCons, dNil, aCons, aNil, aBoxN, aBox, fCall, resolve, boxes, bxpos, wb, fNm, rdAll, fTup, fLst, hAdd, hSub, hInt2, hMulL, hLt, hLe, hGt, hGe, hNeg, hAbs, hLen, hInt1, hMax2, hMin2, hIx, fSl, oNone, oSome, hSl, fB, toB, fAnd, fOr, fNot, fAndV, fOrV, fNotV, fChain, kName, kTup, kCons, kNil, slOk, sStore, fMt, mtGo, hApp, hFdiv, hMod, hDivmod, outs, List.length_cons, List.length_nil, List.getElem?_cons_zero, List.getElem?_cons_succ, List.getElem?_nil, List.set_cons_zero, List.set_cons_succ, List.replicate_succ, List.replicate_zero, List.cons_append, List.nil_append, Option.bind_some, Option.map_some, cond_true, cond_false, ite_true, ite_false, Nat.reduceAdd, Nat.reduceSub, Nat.reduceEqDiff, Nat.reduceLeDiff, if_true, if_false, reduceIte, atI_n0, atI_n1, atI_n2, atI_n3, ixN_10, ixN_20, ixN_21, hEq_int, hNe_int, Bool.not_true, decide_true, decide_false, hTuple, sTryK, sRaise, Bool.false_eq_true, Bool.not_false, sz0, sz1, sz2, sz3, sz4, sz5, sz6, sz7, sz8])]
  rw [sCons_nx (fs1 := [.dat (chD r L O), .dat (.int r), .dat (.tuple L), .dat (.tuple (O.map PyData.int)), .dat (.int top), .no, .no, .no, .no, .no, .no]) (by simp only [mkFn, sCons, sSet, sPar, sUnp, sIf, sRet, sRetN, sDrop, sNil, sBrk, sCnt, bndS, bnd, rt, opt, fVar, fVal, fBin, fUn, rd1, rd2, Rv.rd, Sl.rd, fD, fzM, Rv.fz, fCons, fNil, dCons, dNil, aCons, aNil, aBoxN, aBox, fCall, resolve, boxes, bxpos, wb, fNm, rdAll, fTup, fLst, hAdd, hSub, hInt2, hMulL, hLt, hLe, hGt, hGe, hNeg, hAbs, hLen, hInt1, hMax2, hMin2, hIx, fSl, oNone, oSome, hSl, fB, toB, fAnd, fOr, fNot, fAndV, fOrV, fNotV, fChain, kName, kTup, kCons, kNil, slOk, sStore, fMt, mtGo, hApp, hFdiv, hMod, hDivmod, outs, List.length_cons, List.length_nil, List.getElem?_cons_zero, List.getElem?_cons_succ, List.getElem?_nil, List.set_cons_zero, List.set_cons_succ, List.replicate_succ, List.replicate_zero, List.cons_append, List.nil_append, Option.bind_some, Option.map_some, cond_true, cond_false, ite_true, ite_false, Nat.reduceAdd, Nat.reduceSub, Nat.reduceEqDiff, Nat.reduceLeDiff, if_true, if_false, reduceIte, atI_n0, atI_n1, atI_n2, atI_n3, ixN_10, ixN_20, ixN_21, hEq_int, hNe_int, Bool.not_true, decide_true, decide_false, hTuple, sTryK, sRaise, Bool.false_eq_true, Bool.not_false, sz0, sz1, sz2, sz3, sz4, sz5, sz6, sz7, sz8, et])]
  rw [sCons_nx (fs1 := F .no .no .no .no) (by simp only [mkFn, sCons, sSet, sPar, sUnp, sIf, sRet, sRetN, sDrop, sNil, sBrk, sCnt, bndS, bnd, rt, opt, fVar, fVal, fBin, fUn, rd1, rd2, Rv.rd, Sl.rd, fD, fzM, Rv.fz, fCons, fNil, dCons, dNil, aCons, aNil, aBoxN, aBox, fCall, resolve, boxes, bxpos, wb, fNm, rdAll, fTup, fLst, hAdd, hSub, hInt2, hMulL, hLt, hLe, hGt, hGe, hNeg, hAbs, hLen, hInt1, hMax2, hMin2, hIx, fSl, oNone, oSome, hSl, fB, toB, fAnd, fOr, fNot, fAndV, fOrV, fNotV, fChain, kName, kTup, kCons, kNil, slOk, sStore, fMt, mtGo, hApp, hFdiv, hMod, hDivmod, outs, List.length_cons, List.length_nil, List.getElem?_cons_zero, List.getElem?_cons_succ, List.getElem?_nil, List.set_cons_zero, List.set_cons_succ, List.replicate_succ, List.replicate_zero, List.cons_append, List.nil_append, Option.bind_some, Option.map_some, cond_true, cond_false, ite_true, ite_false, Nat.reduceAdd, Nat.reduceSub, Nat.reduceEqDiff, Nat.reduceLeDiff, if_true, if_false, reduceIte, atI_n0, atI_n1, atI_n2, atI_n3, ixN_10, ixN_20, ixN_21, hEq_int, hNe_int, Bool.not_true, decide_true, decide_false, hTuple, sTryK, sRaise, Bool.false_eq_true, Bool.not_false, sz0, sz1, sz2, sz3, sz4, sz5, sz6, sz7, sz8, e1, F])]
  rw [sCons_nx (fs1 := F .no .no .no .no) (by simp only [F]; simp only [mkFn, sCons, sSet, sPar, sUnp, sIf, sRet, sRetN, sDrop, sNil, sBrk, sCnt, bndS, bnd, rt, opt, fVar, fVal, fBin, fUn, rd1, rd2, Rv.rd, Sl.rd, fD, fzM, Rv.fz, fCons, fNil, dCons, dNil, aCons, aNil, aBoxN, aBox, fCall, resolve, boxes, bxpos, wb, fNm, rdAll, fTup, fLst, hAdd, hSub, hInt2, hMulL, hLt, hLe, hGt, hGe, hNeg, hAbs, hLen, hInt1, hMax2, hMin2, hIx, fSl, oNone, oSome, hSl, fB, toB, fAnd, fOr, fNot, fAndV, fOrV, fNotV, fChain, kName, kTup, kCons, kNil, slOk, sStore, fMt, mtGo, hApp, hFdiv, hMod, hDivmod, outs, List.length_cons, List.length_nil, List.getElem?_cons_zero, List.getElem?_cons_succ, List.getElem?_nil, List.set_cons_zero, List.set_cons_succ, List.replicate_succ, List.replicate_zero, List.cons_append, List.nil_append, Option.bind_some, Option.map_some, cond_true, cond_false, ite_true, ite_false, Nat.reduceAdd, Nat.reduceSub, Nat.reduceEqDiff, Nat.reduceLeDiff, if_true, if_false, reduceIte, atI_n0, atI_n1, atI_n2, atI_n3, ixN_10, ixN_20, ixN_21, hEq_int, hNe_int, Bool.not_true, decide_true, decide_false, hTuple, sTryK, sRaise, Bool.false_eq_true, Bool.not_false, sz0, sz1, sz2, sz3, sz4, sz5, sz6, sz7, sz8, at1, at2, eq1])]
  rw [sCons_nx (fs1 := F (.own 0 (.list L)) .no .no .no) (by simp only [mkFn, sCons, sSet, sPar, sUnp, sIf, sRet, sRetN, sDrop, sNil, sBrk, sCnt, bndS, bnd, rt, opt, fVar, fVal, fBin, fUn, rd1, rd2, Rv.rd, Sl.rd, fD, fzM, Rv.fz, fCons, fNil, dCons, dNil, aCons, aNil, aBoxN, aBox, fCall, resolve, boxes, bxpos, wb, fNm, rdAll, fTup, fLst, hAdd, hSub, hInt2, hMulL, hLt, hLe, hGt, hGe, hNeg, hAbs, hLen, hInt1, hMax2, hMin2, hIx, fSl, oNone, oSome, hSl, fB, toB, fAnd, fOr, fNot, fAndV, fOrV, fNotV, fChain, kName, kTup, kCons, kNil, slOk, sStore, fMt, mtGo, hApp, hFdiv, hMod, hDivmod, outs, List.length_cons, List.length_nil, List.getElem?_cons_zero, List.getElem?_cons_succ, List.getElem?_nil, List.set_cons_zero, List.set_cons_succ, List.replicate_succ, List.replicate_zero, List.cons_append, List.nil_append, Option.bind_some, Option.map_some, cond_true, cond_false, ite_true, ite_false, Nat.reduceAdd, Nat.reduceSub, Nat.reduceEqDiff, Nat.reduceLeDiff, if_true, if_false, reduceIte, atI_n0, atI_n1, atI_n2, atI_n3, ixN_10, ixN_20, ixN_21, hEq_int, hNe_int, Bool.not_true, decide_true, decide_false, hTuple, sTryK, sRaise, Bool.false_eq_true, Bool.not_false, sz0, sz1, sz2, sz3, sz4, sz5, sz6, sz7, sz8, hList, F])]
  rw [sCons_nx (fs1 := F (.own 0 (.list L)) (.own 0 (.list ((upto L.length).map PyData.int))) .no .no) (by simp only [mkFn, sCons, sSet, sPar, sUnp, sIf, sRet, sRetN, sDrop, sNil, sBrk, sCnt, bndS, bnd, rt, opt, fVar, fVal, fBin, fUn, rd1, rd2, Rv.rd, Sl.rd, fD, fzM, Rv.fz, fCons, fNil, dCons, dNil, aCons, aNil, aBoxN, aBox, fCall, resolve, boxes, bxpos, wb, fNm, rdAll, fTup, fLst, hAdd, hSub, hInt2, hMulL, hLt, hLe, hGt, hGe, hNeg, hAbs, hLen, hInt1, hMax2, hMin2, hIx, fSl, oNone, oSome, hSl, fB, toB, fAnd, fOr, fNot, fAndV, fOrV, fNotV, fChain, kName, kTup, kCons, kNil, slOk, sStore, fMt, mtGo, hApp, hFdiv, hMod, hDivmod, outs, List.length_cons, List.length_nil, List.getElem?_cons_zero, List.getElem?_cons_succ, List.getElem?_nil, List.set_cons_zero, List.set_cons_succ, List.replicate_succ, List.replicate_zero, List.cons_append, List.nil_append, Option.bind_some, Option.map_some, cond_true, cond_false, ite_true, ite_false, Nat.reduceAdd, Nat.reduceSub, Nat.reduceEqDiff, Nat.reduceLeDiff, if_true, if_false, reduceIte, atI_n0, atI_n1, atI_n2, atI_n3, ixN_10, ixN_20, ixN_21, hEq_int, hNe_int, Bool.not_true, decide_true, decide_false, hTuple, sTryK, sRaise, Bool.false_eq_true, Bool.not_false, sz0, sz1, sz2, sz3, sz4, sz5, sz6, sz7, sz8, hLR1_nat (show L.length ≤ 1000 by omega), F])]
  rw [sCons_nx (fs1 := F (.own 0 (.list L)) (.own 0 (.list ((upto L.length).map PyData.int))) (.own 0 (.list (O.map PyData.int))) .no) (by simp only [mkFn, sCons, sSet, sPar, sUnp, sIf, sRet, sRetN, sDrop, sNil, sBrk, sCnt, bndS, bnd, rt, opt, fVar, fVal, fBin, fUn, rd1, rd2, Rv.rd, Sl.rd, fD, fzM, Rv.fz, fCons, fNil, dCons, dNil, aCons, aNil, aBoxN, aBox, fCall, resolve, boxes, bxpos, wb, fNm, rdAll, fTup, fLst, hAdd, hSub, hInt2, hMulL, hLt, hLe, hGt, hGe, hNeg, hAbs, hLen, hInt1, hMax2, hMin2, hIx, fSl, oNone, oSome, hSl, fB, toB, fAnd, fOr, fNot, fAndV, fOrV, fNotV, fChain, kName, kTup, kCons, kNil, slOk, sStore, fMt, mtGo, hApp, hFdiv, hMod, hDivmod, outs, List.length_cons, List.length_nil, List.getElem?_cons_zero, List.getElem?_cons_succ, List.getElem?_nil, List.set_cons_zero, List.set_cons_succ, List.replicate_succ, List.replicate_zero, List.cons_append, List.nil_append, Option.bind_some, Option.map_some, cond_true, cond_false, ite_true, ite_false, Nat.reduceAdd, Nat.reduceSub, Nat.reduceEqDiff, Nat.reduceLeDiff, if_true, if_false, reduceIte, atI_n0, atI_n1, atI_n2, atI_n3, ixN_10, ixN_20, ixN_21, hEq_int, hNe_int, Bool.not_true, decide_true, decide_false, hTuple, sTryK, sRaise, Bool.false_eq_true, Bool.not_false, sz0, sz1, sz2, sz3, sz4, sz5, sz6, sz7, sz8, hList, F])]
  rw [sCons_nx (fs1 := F (.own 0 (.list L)) (.own 0 (.list ((upto L.length).map PyData.int))) (.own 0 (.list (O.map PyData.int))) (.dat (.int 1))) (by simp only [F]; simp only [mkFn, sCons, sSet, sPar, sUnp, sIf, sRet, sRetN, sDrop, sNil, sBrk, sCnt, bndS, bnd, rt, opt, fVar, fVal, fBin, fUn, rd1, rd2, Rv.rd, Sl.rd, fD, fzM, Rv.fz, fCons, fNil, dCons, dNil, aCons, aNil, aBoxN, aBox, fCall, resolve, boxes, bxpos, wb, fNm, rdAll, fTup, fLst, hAdd, hSub, hInt2, hMulL, hLt, hLe, hGt, hGe, hNeg, hAbs, hLen, hInt1, hMax2, hMin2, hIx, fSl, oNone, oSome, hSl, fB, toB, fAnd, fOr, fNot, fAndV, fOrV, fNotV, fChain, kName, kTup, kCons, kNil, slOk, sStore, fMt, mtGo, hApp, hFdiv, hMod, hDivmod, outs, List.length_cons, List.length_nil, List.getElem?_cons_zero, List.getElem?_cons_succ, List.getElem?_nil, List.set_cons_zero, List.set_cons_succ, List.replicate_succ, List.replicate_zero, List.cons_append, List.nil_append, Option.bind_some, Option.map_some, cond_true, cond_false, ite_true, ite_false, Nat.reduceAdd, Nat.reduceSub, Nat.reduceEqDiff, Nat.reduceLeDiff, if_true, if_false, reduceIte, atI_n0, atI_n1, atI_n2, atI_n3, ixN_10, ixN_20, ixN_21, hEq_int, hNe_int, Bool.not_true, decide_true, decide_false, hTuple, sTryK, sRaise, Bool.false_eq_true, Bool.not_false, sz0, sz1, sz2, sz3, sz4, sz5, sz6, sz7, sz8, at1, at2, els])]
  rw [sCons_nx (fs1 := F (.own 0 (.list (L.set bot (tup3 x y z)))) (.own 0 (.list (AH.map PyData.int))) (.own 0 (.list (O.map PyData.int))) (.dat (.int 1))) (by
    have d10 : decide ((1 : Int) = 0) = false := by decide
    rw [sIf_f (fs1 := F (.own 0 (.list L)) (.own 0 (.list ((upto L.length).map PyData.int))) (.own 0 (.list (O.map PyData.int))) (.dat (.int 1))) (by simp only [mkFn, sCons, sSet, sPar, sUnp, sIf, sRet, sRetN, sDrop, sNil, sBrk, sCnt, bndS, bnd, rt, opt, fVar, fVal, fBin, fUn, rd1, rd2, Rv.rd, Sl.rd, fD, fzM, Rv.fz, fCons, fNil, dCons, dNil, aCons, aNil, aBoxN, aBox, fCall, resolve, boxes, bxpos, wb, fNm, rdAll, fTup, fLst, hAdd, hSub, hInt2, hMulL, hLt, hLe, hGt, hGe, hNeg, hAbs, hLen, hInt1, hMax2, hMin2, hIx, fSl, oNone, oSome, hSl, fB, toB, fAnd, fOr, fNot, fAndV, fOrV, fNotV, fChain, kName, kTup, kCons, kNil, slOk, sStore, fMt, mtGo, hApp, hFdiv, hMod, hDivmod, outs, List.length_cons, List.length_nil, List.getElem?_cons_zero, List.getElem?_cons_succ, List.getElem?_nil, List.set_cons_zero, List.set_cons_succ, List.replicate_succ, List.replicate_zero, List.cons_append, List.nil_append, Option.bind_some, Option.map_some, cond_true, cond_false, ite_true, ite_false, Nat.reduceAdd, Nat.reduceSub, Nat.reduceEqDiff, Nat.reduceLeDiff, if_true, if_false, reduceIte, atI_n0, atI_n1, atI_n2, atI_n3, ixN_10, ixN_20, ixN_21, hEq_int, hNe_int, Bool.not_true, decide_true, decide_false, hTuple, sTryK, sRaise, Bool.false_eq_true, Bool.not_false, sz0, sz1, sz2, sz3, sz4, sz5, sz6, sz7, sz8, F, d10])]
    rw [sCons_nx (fs1 := F (.own 0 (.list (L.set bot (tup3 x y z)))) (.own 0 (.list ((upto L.length).map PyData.int))) (.own 0 (.list (O.map PyData.int))) (.dat (.int 1))) (by simp only [F]; simp only [mkFn, sCons, sSet, sPar, sUnp, sIf, sRet, sRetN, sDrop, sNil, sBrk, sCnt, bndS, bnd, rt, opt, fVar, fVal, fBin, fUn, rd1, rd2, Rv.rd, Sl.rd, fD, fzM, Rv.fz, fCons, fNil, dCons, dNil, aCons, aNil, aBoxN, aBox, fCall, resolve, boxes, bxpos, wb, fNm, rdAll, fTup, fLst, hAdd, hSub, hInt2, hMulL, hLt, hLe, hGt, hGe, hNeg, hAbs, hLen, hInt1, hMax2, hMin2, hIx, fSl, oNone, oSome, hSl, fB, toB, fAnd, fOr, fNot, fAndV, fOrV, fNotV, fChain, kName, kTup, kCons, kNil, slOk, sStore, fMt, mtGo, hApp, hFdiv, hMod, hDivmod, outs, List.length_cons, List.length_nil, List.getElem?_cons_zero, List.getElem?_cons_succ, List.getElem?_nil, List.set_cons_zero, List.set_cons_succ, List.replicate_succ, List.replicate_zero, List.cons_append, List.nil_append, Option.bind_some, Option.map_some, cond_true, cond_false, ite_true, ite_false, Nat.reduceAdd, Nat.reduceSub, Nat.reduceEqDiff, Nat.reduceLeDiff, if_true, if_false, reduceIte, atI_n0, atI_n1, atI_n2, atI_n3, ixN_10, ixN_20, ixN_21, hEq_int, hNe_int, Bool.not_true, decide_true, decide_false, hTuple, sTryK, sRaise, Bool.false_eq_true, Bool.not_false, sz0, sz1, sz2, sz3, sz4, sz5, sz6, sz7, sz8, at1, at2, emi, ixb])]
    rw [sCons_nx (fs1 := F (.own 0 (.list (L.set bot (tup3 x y z)))) (.own 0 (.list ((upto (L.length - 1)).map PyData.int))) (.own 0 (.list (O.map PyData.int))) (.dat (.int 1))) (by simp only [F]; simp only [mkFn, sCons, sSet, sPar, sUnp, sIf, sRet, sRetN, sDrop, sNil, sBrk, sCnt, bndS, bnd, rt, opt, fVar, fVal, fBin, fUn, rd1, rd2, Rv.rd, Sl.rd, fD, fzM, Rv.fz, fCons, fNil, dCons, dNil, aCons, aNil, aBoxN, aBox, fCall, resolve, boxes, bxpos, wb, fNm, rdAll, fTup, fLst, hAdd, hSub, hInt2, hMulL, hLt, hLe, hGt, hGe, hNeg, hAbs, hLen, hInt1, hMax2, hMin2, hIx, fSl, oNone, oSome, hSl, fB, toB, fAnd, fOr, fNot, fAndV, fOrV, fNotV, fChain, kName, kTup, kCons, kNil, slOk, sStore, fMt, mtGo, hApp, hFdiv, hMod, hDivmod, outs, List.length_cons, List.length_nil, List.getElem?_cons_zero, List.getElem?_cons_succ, List.getElem?_nil, List.set_cons_zero, List.set_cons_succ, List.replicate_succ, List.replicate_zero, List.cons_append, List.nil_append, Option.bind_some, Option.map_some, cond_true, cond_false, ite_true, ite_false, Nat.reduceAdd, Nat.reduceSub, Nat.reduceEqDiff, Nat.reduceLeDiff, if_true, if_false, reduceIte, atI_n0, atI_n1, atI_n2, atI_n3, ixN_10, ixN_20, ixN_21, hEq_int, hNe_int, Bool.not_true, decide_true, decide_false, hTuple, sTryK, sRaise, Bool.false_eq_true, Bool.not_false, sz0, sz1, sz2, sz3, sz4, sz5, sz6, sz7, sz8, hpop])]
    have eix := fIndex_list (f := fVar 7) (g := fVar 5) (fs := F (.own 0 (.list (L.set bot (tup3 x y z)))) (.own 0 (.list ((upto (L.length - 1)).map PyData.int))) (.own 0 (.list (O.map PyData.int))) (.dat (.int 1))) (x := .slot 7) (y := .val (.int (bot : Nat))) rfl rfl rfl rfl rfl (upto_nodup _) ix1
    have ek : ((bot : Nat) : Int) + 1 = ((bot + 1 : Nat) : Int) := by omega
    generalize fIndex (fVar 7) (fVar 5) = E at eix ⊢
    simp only [F] at eix ⊢
    simp only [mkFn, sCons, sSet, sPar, sUnp, sIf, sRet, sRetN, sDrop, sNil, sBrk, sCnt, bndS, bnd, rt, opt, fVar, fVal, fBin, fUn, rd1, rd2, Rv.rd, Sl.rd, fD, fzM, Rv.fz, fCons, fNil, dCons, dNil, aCons, aNil, aBoxN, aBox, fCall, resolve, boxes, bxpos, wb, fNm, rdAll, fTup, fLst, hAdd, hSub, hInt2, hMulL, hLt, hLe, hGt, hGe, hNeg, hAbs, hLen, hInt1, hMax2, hMin2, hIx, fSl, oNone, oSome, hSl, fB, toB, fAnd, fOr, fNot, fAndV, fOrV, fNotV, fChain, kName, kTup, kCons, kNil, slOk, sStore, fMt, mtGo, hApp, hFdiv, hMod, hDivmod, outs, List.length_cons, List.length_nil, List.getElem?_cons_zero, List.getElem?_cons_succ, List.getElem?_nil, List.set_cons_zero, List.set_cons_succ, List.replicate_succ, List.replicate_zero, List.cons_append, List.nil_append, Option.bind_some, Option.map_some, cond_true, cond_false, ite_true, ite_false, Nat.reduceAdd, Nat.reduceSub, Nat.reduceEqDiff, Nat.reduceLeDiff, if_true, if_false, reduceIte, atI_n0, atI_n1, atI_n2, atI_n3, ixN_10, ixN_20, ixN_21, hEq_int, hNe_int, Bool.not_true, decide_true, decide_false, hTuple, sTryK, sRaise, Bool.false_eq_true, Bool.not_false, sz0, sz1, sz2, sz3, sz4, sz5, sz6, sz7, sz8, eix, ek, hins])]
  exact hend
/-! ### a step is a first return: sort 0 -/
section
variable {r : Int} {k : Nat} {L : List Pr} {O : List Int} {x p q : Pr} {b : Nat}
theorem Tby {L : List Pr} {O : List Int} {x : Pr} {i : Nat} (h : pc r L x = i) : T r L O x = addP x (subP (lat L O i) (bg L i)) := by unfold T mov; rw [h]
theorem pos_sub (hr : okRoot r) (zp : Zp r p) (zq : Zp r q) (h : ltP r q p = true) : posP r (subP p q) := by
  unfold posP
  unfold ltP at h ⊢
  show negV r (0 - (p.1 - q.1)) (0 - (p.2 - q.2)) = true
  rw [show 0 - (p.1 - q.1) = q.1 - p.1 by omega, show 0 - (p.2 - q.2) = q.2 - p.2 by omega]
  exact h
theorem zp_sub (zp : Zp r p) (zq : Zp r q) : Zp r (subP p q) := fun h0 => by
  show p.2 - q.2 = 0
  rw [zp h0, zq h0]; rfl
theorem lonO_set {M : List Pr} {P : List Int} {i : Nat} {v : Pr} (h : ∀ y ∈ P, y ≠ (i : Int)) (h2 : ∀ y ∈ P, 0 ≤ y) : lonO (M.set i v) P = lonO M P := by
  unfold lonO
  refine List.map_congr_left fun y hy => ?_
  rw [List.getElem?_set_ne (fun e => h y hy (by have := h2 y hy; omega))]
/-- the goes of the lesser change, sort 0 -/
theorem one0 {A B : List Int} (K : Okp r k L O) (hO : O = A ++ ((L.length : Int) - 1) :: B ++ [(b : Int)]) (h1 : L.getLast? = some p) (h3 : L[b]? = some q) (hlt : ltP r q p = true) (hbn : b + 1 < L.length)
    (K' : Okp r (k + 1) (L.set (L.length - 1) (subP p q)) (A ++ ((L.length : Int) - 1) :: (b : Int) :: B)) (hx : leP r (0, 0) x) (zx : Zp r x) (hw : ltP r x (subP (sumP L) q) = true) :
    (pc r (L.set (L.length - 1) (subP p q)) x ≠ b → pc r L x = pc r (L.set (L.length - 1) (subP p q)) x ∧ T r L O x = T r (L.set (L.length - 1) (subP p q)) (A ++ ((L.length : Int) - 1) :: (b : Int) :: B) x) ∧
    (pc r (L.set (L.length - 1) (subP p q)) x = b → pc r L x = b ∧ leP r (subP (sumP L) q) (T r L O x) ∧ pc r L (T r L O x) = L.length - 1 ∧ T r L O (T r L O x) = T r (L.set (L.length - 1) (subP p q)) (A ++ ((L.length : Int) - 1) :: (b : Int) :: B) x) := by
  have hlp : L[L.length - 1]? = some p := by rw [← List.getLast?_eq_getElem?]; exact h1
  have hn : O.Nodup := K.hp.nodup_iff.mpr (upto_nodup _)
  have hn' : (A ++ ((L.length : Int) - 1) :: (b : Int) :: B).Nodup := K'.hp.nodup_iff.mpr (upto_nodup _)
  have etop : ((L.length : Int) - 1) = ((L.length - 1 : Nat) : Int) := by have := K.h0; omega
  have hset : sumP (L.set (L.length - 1) (subP p q)) = subP (sumP L) q := sumP_set hlp
  have hlen' : (L.set (L.length - 1) (subP p q)).length = L.length := List.length_set
  have hmemO : ∀ y ∈ O, 0 ≤ y := fun y hy => (upto_mem.mp (K.hp.mem_iff.mp hy)).1
  -- begins
  have hbg : ∀ i, i ≤ L.length - 1 → bg (L.set (L.length - 1) (subP p q)) i = bg L i := fun i hi => by
    show sumP (List.take i _) = sumP (List.take i L)
    rw [List.take_set_of_le hi]
  have zpp := K.z p (List.mem_of_getElem? hlp)
  have zqq := K.z q (List.mem_of_getElem? h3)
  have posq := K.pos q (List.mem_of_getElem? h3)
  generalize hL' : L.set (L.length - 1) (subP p q) = L' at *
  generalize hOO : A ++ ((L.length : Int) - 1) :: (b : Int) :: B = O' at *
  have hnodA : ∀ y ∈ A, y ≠ ((L.length - 1 : Nat) : Int) := fun y hy e => by
    rw [hO, List.append_assoc, List.nodup_append] at hn
    exact hn.2.2 y hy _ (by rw [← etop]; simp) e
  have hnodB : ∀ y ∈ B, y ≠ ((L.length - 1 : Nat) : Int) := fun y hy e => by
    rw [← hOO, List.nodup_append] at hn'
    have := (List.nodup_cons.mp hn'.2.1).1
    exact this (by rw [etop, ← e]; exact List.mem_cons_of_mem _ hy)
  have eA : lonO L' A = lonO L A := by
    rw [← hL']
    exact lonO_set hnodA fun y hy => hmemO y (by rw [hO]; simp [hy])
  have eB : ∀ B1 : List Int, (∀ y ∈ B1, y ∈ B) → lonO L' B1 = lonO L B1 := fun B1 h => by
    rw [← hL']
    exact lonO_set (fun y hy => hnodB y (h y hy)) fun y hy => hmemO y (by rw [hO]; simp [h y hy])
  have et : lonO L [((L.length : Int) - 1)] = [p] := by rw [etop]; exact lonO_one L _ hlp
  have et' : lonO L' [((L.length : Int) - 1)] = [subP p q] := by
    rw [etop]
    exact lonO_one L' _ (by rw [← hL', List.getElem?_set_self (by have := K.h0; omega)])
  have eb' : lonO L' [(b : Int)] = [q] := lonO_one L' b (by rw [← hL', List.getElem?_set_ne (by omega)]; exact h3)
  have eb : lonO L [(b : Int)] = [q] := lonO_one L b h3
  -- where pieces lie
  have lat_top : lat L O (L.length - 1) = sumP (lonO L A) := lat_split (P := A) (Q := B ++ [(b : Int)]) (by rw [hO, ← etop]; simp) hn
  have lat_b : lat L O b = addP (addP (sumP (lonO L A)) p) (sumP (lonO L B)) := by
    rw [lat_split (P := A ++ ((L.length : Int) - 1) :: B) (Q := []) (by rw [hO]) hn]
    rw [show A ++ ((L.length : Int) - 1) :: B = A ++ [((L.length : Int) - 1)] ++ B by simp, lonO_app, lonO_app, et, sumP_app, sumP_app, sumP_one]
  have lat_b' : lat L' O' b = addP (sumP (lonO L A)) (subP p q) := by
    rw [lat_split (P := A ++ [((L.length : Int) - 1)]) (Q := B) (by rw [← hOO]; simp) hn', lonO_app, eA, et', sumP_app, sumP_one]
  have lat_o : ∀ i, i < L.length → i ≠ b → lat L' O' i = lat L O i := fun i hi hib => by
    have hm : (i : Int) ∈ O := K.hp.mem_iff.mpr (upto_mem.mpr (by omega))
    rw [hO] at hm
    have hm' : (i : Int) ∈ A ∨ (i : Int) = (L.length : Int) - 1 ∨ (i : Int) ∈ B := by
      simp at hm
      rcases hm with h | h | h | h
      · exact .inl h
      · exact .inr (.inl h)
      · exact .inr (.inr h)
      · exact absurd (by omega) hib
    rcases hm' with h | h | h
    · obtain ⟨P, Q, e⟩ := List.append_of_mem h
      rw [lat_split (P := P) (Q := Q ++ ((L.length : Int) - 1) :: (b : Int) :: B) (by rw [← hOO, e]; simp) hn', lat_split (P := P) (Q := Q ++ ((L.length : Int) - 1) :: B ++ [(b : Int)]) (by rw [hO, e]; simp) hn]
      congr 1
      rw [← hL']
      exact lonO_set (fun y hy => hnodA y (by rw [e]; simp [hy])) fun y hy => hmemO y (by rw [hO, e]; simp [hy])
    · have hi' : i = L.length - 1 := by omega
      subst hi'
      rw [lat_top, lat_split (P := A) (Q := (b : Int) :: B) (by rw [← hOO, etop]) hn', eA]
    · obtain ⟨P, Q, e⟩ := List.append_of_mem h
      rw [lat_split (P := A ++ [((L.length : Int) - 1)] ++ [(b : Int)] ++ P) (Q := Q) (by rw [← hOO, e]; simp) hn', lat_split (P := A ++ [((L.length : Int) - 1)] ++ P) (Q := Q ++ [(b : Int)]) (by rw [hO, e]; simp) hn]
      rw [lonO_app, lonO_app, lonO_app, lonO_app, lonO_app, eA, et, et', eb', eB P (fun y hy => by rw [e]; simp [hy])]
      rw [sumP_app, sumP_app, sumP_app, sumP_app, sumP_app, sumP_one, sumP_one, sumP_one]
      unfold addP subP
      exact Prod.ext (by show (sumP (lonO L A)).1 + (p.1 - q.1) + q.1 + (sumP (lonO L P)).1 = (sumP (lonO L A)).1 + p.1 + (sumP (lonO L P)).1; omega) (by show (sumP (lonO L A)).2 + (p.2 - q.2) + q.2 + (sumP (lonO L P)).2 = (sumP (lonO L A)).2 + p.2 + (sumP (lonO L P)).2; omega)
  have hsum : sumP L = addP (addP (addP (sumP (lonO L A)) p) (sumP (lonO L B))) q := by
    rw [← sumP_perm (lonO_all K.hp), hO, show A ++ ((L.length : Int) - 1) :: B ++ [(b : Int)] = A ++ [((L.length : Int) - 1)] ++ B ++ [(b : Int)] by simp, lonO_app, lonO_app, lonO_app, et, eb, sumP_app, sumP_app, sumP_app, sumP_one, sumP_one]
  have hbgt : addP (bg L (L.length - 1)) p = sumP L := by
    rw [← bg_succ hlp, bg_all (by omega)]
  -- the piece
  obtain ⟨a1, a2, _⟩ := pc_spec (r := r) (L := L') (x := x) K'.h0 hx
  have a3 := pc_end (r := r) (L := L') K'.h0 hx (by rw [hset]; exact hw)
  rw [hlen'] at a1
  have hpc : pc r L x = pc r L' x := by
    generalize pc r L' x = i at *
    refine pc_eq K.hr K.z K.pos zx a1 (by rw [← hbg i (by omega)]; exact a2) ?_
    by_cases hi : i + 1 ≤ L.length - 1
    · rw [← hbg (i + 1) hi]; exact a3
    · rw [bg_all (by omega)]
      refine lt_trans K.hr.nn hw ?_
      have := lt_step (p := subP (sumP L) q) posq
      rwa [show addP (subP (sumP L) q) q = sumP L from (addsub x (sumP L) q).2] at this
  refine ⟨fun hne => ⟨hpc, ?_⟩, fun he => ?_⟩
  · rw [Tby hpc, Tby (i := pc r L' x) rfl, lat_o _ a1 hne, hbg _ (by omega)]
  · rw [he] at hpc a2 a3 a1
    have hTx : T r L O x = addP x (subP (lat L O b) (bg L b)) := Tby hpc
    have hT' : T r L' O' x = addP x (subP (lat L' O' b) (bg L' b)) := Tby he
    have hb1 : bg L' b = bg L b := hbg b (by omega)
    rw [hb1] at a2 hT'
    have elb : lat L O b = subP (sumP L) q := by
      rw [hsum, lat_b]
      unfold addP subP
      exact Prod.ext (by show _ = (sumP (lonO L A)).1 + p.1 + (sumP (lonO L B)).1 + q.1 - q.1; omega) (by show _ = (sumP (lonO L A)).2 + p.2 + (sumP (lonO L B)).2 + q.2 - q.2; omega)
    have zw : Zp r (subP (sumP L) q) := zp_sub (zp_sum K.z) zqq
    have zT : Zp r (T r L O x) := T_z K zx
    have h5 : leP r (subP (sumP L) q) (T r L O x) := by
      rw [hTx, (addsub x (lat L O b) (bg L b)).1, elb]
      show ltP r _ (subP (sumP L) q) = false
      conv => lhs; rhs; rw [← (addsub x (subP (sumP L) q) (bg L b)).2]
      rw [lt_addl]
      exact a2
    have hTw := T_lt K hx zx (lt_trans K.hr.nn hw (by
      have := lt_step (p := subP (sumP L) q) posq
      rwa [show addP (subP (sumP L) q) q = sumP L from (addsub x (sumP L) q).2] at this))
    have h6 : pc r L (T r L O x) = L.length - 1 := by
      refine pc_eq K.hr K.z K.pos zT (by have := K.h0; omega) ?_ (by rw [bg_all (by omega)]; exact hTw)
      refine le_trans K.hr (zp_bg K.z _) zw ?_ h5
      -- bg (n-1) ≤ w - q
      show ltP r (subP (sumP L) q) (bg L (L.length - 1)) = false
      rw [← hbgt]
      have : subP (addP (bg L (L.length - 1)) p) q = addP (bg L (L.length - 1)) (subP p q) := by
        unfold addP subP
        exact Prod.ext (by show _ + p.1 - q.1 = _ + (p.1 - q.1); omega) (by show _ + p.2 - q.2 = _ + (p.2 - q.2); omega)
      rw [this]
      exact le_of_lt K.hr.nn (lt_step (pos_sub K.hr zpp zqq hlt))
    refine ⟨hpc, h5, h6, ?_⟩
    rw [Tby h6, hTx, hT', lat_top, lat_b', elb]
    have e1 : bg L (L.length - 1) = subP (sumP L) p := by
      rw [← hbgt]
      unfold addP subP
      exact Prod.ext (by show _ = (bg L (L.length - 1)).1 + p.1 - p.1; omega) (by show _ = (bg L (L.length - 1)).2 + p.2 - p.2; omega)
    rw [e1]
    unfold addP subP
    exact Prod.ext (by show x.1 + ((sumP L).1 - q.1 - (bg L b).1) + ((sumP (lonO L A)).1 - ((sumP L).1 - p.1)) = x.1 + ((sumP (lonO L A)).1 + (p.1 - q.1) - (bg L b).1); omega) (by show x.2 + ((sumP L).2 - q.2 - (bg L b).2) + ((sumP (lonO L A)).2 - ((sumP L).2 - p.2)) = x.2 + ((sumP (lonO L A)).2 + (p.2 - q.2) - (bg L b).2); omega)
end
/-! sort 1 -/
section
variable {r : Int} {k : Nat} {L : List Pr} {O : List Int} {x p q : Pr} {b : Nat}
theorem bgA {n : Nat} (hn : L.length = n) (hbn : b + 1 < n) (h1 : L.getLast? = some p) (h3 : L[b]? = some q) :
    (∀ i, i ≤ b → bg (lonA n b (L.set b (subP q p))) i = bg L i) ∧ bg (lonA n b (L.set b (subP q p))) (b + 1) = addP (bg L b) (subP q p) ∧ ∀ i, b + 1 ≤ i → i < n → bg (lonA n b (L.set b (subP q p))) (i + 1) = bg L i := by
  have hM : (L.set b (subP q p)).length = n := by rw [List.length_set]; exact hn
  have hlp : L[n - 1]? = some p := by rw [← hn, ← List.getLast?_eq_getElem?]; exact h1
  have g : ∀ j, j < n → (lonA n b (L.set b (subP q p)))[j]? = (L.set b (subP q p))[ahf n b j]? := fun j hj => lonA_get hM hbn hj
  have s1 : ∀ i, i ≤ b → bg (lonA n b (L.set b (subP q p))) i = bg L i := by
    intro i
    induction i with
    | zero => intro _; rfl
    | succ i ih =>
      intro hi
      have e1 : L[i]? = some L[i] := List.getElem?_eq_getElem (by omega)
      have e2 : (lonA n b (L.set b (subP q p)))[i]? = some L[i] := by
        rw [g i (by omega), show ahf n b i = i by unfold ahf; rw [if_pos (by omega)], List.getElem?_set_ne (by omega)]
        exact e1
      rw [bg_succ e1, bg_succ e2, ih (by omega)]
  have s2 : bg (lonA n b (L.set b (subP q p))) (b + 1) = addP (bg L b) (subP q p) := by
    have e2 : (lonA n b (L.set b (subP q p)))[b]? = some (subP q p) := by
      rw [g b (by omega), show ahf n b b = b by unfold ahf; rw [if_pos (Nat.le_refl _)], List.getElem?_set_self (by omega)]
    rw [bg_succ e2, s1 b (Nat.le_refl _)]
  refine ⟨s1, s2, fun i hi => ?_⟩
  induction i with
  | zero => omega
  | succ i ih =>
    intro hin
    by_cases h : b + 1 ≤ i
    · have e1 : L[i]? = some L[i] := List.getElem?_eq_getElem (by omega)
      have e2 : (lonA n b (L.set b (subP q p)))[i + 1]? = some L[i] := by
        rw [g (i + 1) hin, show ahf n b (i + 1) = i by unfold ahf; rw [if_neg (by omega), if_neg (by omega)]; rfl, List.getElem?_set_ne (by omega)]
        exact e1
      rw [bg_succ e1, bg_succ e2, ih h (by omega)]
    · have hib : i = b := by omega
      subst hib
      have e2 : (lonA n i (L.set i (subP q p)))[i + 1]? = some p := by
        rw [g (i + 1) hin, show ahf n i (i + 1) = n - 1 by unfold ahf; rw [if_neg (by omega), if_pos rfl], List.getElem?_set_ne (by omega)]
        exact hlp
      rw [bg_succ h3, bg_succ e2, s2]
      unfold addP subP
      exact Prod.ext (by show (bg L i).1 + (q.1 - p.1) + p.1 = (bg L i).1 + q.1; omega) (by show (bg L i).2 + (q.2 - p.2) + p.2 = (bg L i).2 + q.2; omega)
theorem latA {n : Nat} (hn : L.length = n) (hbn : b + 1 < n) (hp : O.Perm (upto n)) (hb : O.getLast? = some (b : Int)) (hp' : (ordA n b O).Perm (upto n)) {i : Nat} (hi : i < n) :
    lat (lonA n b (L.set b (subP q p))) (ordA n b O) (rowf n b i) = lat L O i := by
  have hM : (L.set b (subP q p)).length = n := by rw [List.length_set]; exact hn
  have hnd : O.Nodup := hp.nodup_iff.mpr (upto_nodup _)
  have hnd' : (ordA n b O).Nodup := hp'.nodup_iff.mpr (upto_nodup _)
  obtain ⟨P, Q, hO⟩ := List.append_of_mem (hp.mem_iff.mpr (upto_mem.mpr (show 0 ≤ (i : Int) ∧ (i : Int) < n by omega)))
  have hO' : ordA n b O = P.map (fun x => ((rowf n b x.toNat : Nat) : Int)) ++ ((rowf n b i : Nat) : Int) :: Q.map fun x => ((rowf n b x.toNat : Nat) : Int) := by
    unfold ordA
    rw [hO, List.map_append, List.map_cons, Int.toNat_natCast]
  have hmem : ∀ y ∈ P, 0 ≤ y ∧ y < n ∧ y ≠ (b : Int) := fun y hy => by
    have hm := upto_mem.mp (hp.mem_iff.mp (show y ∈ O by rw [hO]; simp [hy]))
    refine ⟨hm.1, hm.2, fun e => ?_⟩
    rw [hO] at hb hnd
    have hbm : (b : Int) ∈ (i : Int) :: Q := by
      rw [List.getLast?_append] at hb
      cases q : ((i : Int) :: Q).getLast? with
      | none => simp at q
      | some w =>
        rw [q] at hb
        have : w = (b : Int) := by simpa using hb
        rw [← this]
        exact List.mem_of_getLast? q
    rw [List.nodup_append] at hnd
    exact hnd.2.2 y hy _ hbm e
  rw [lat_split hO' hnd', lat_split hO hnd]
  congr 1
  unfold lonO
  rw [List.map_map]
  refine List.map_congr_left fun y hy => ?_
  obtain ⟨m1, m2, m3⟩ := hmem y hy
  obtain ⟨a1, a2, a3, a4⟩ := row_ah (j := y.toNat) hbn (by omega)
  show ((lonA n b (L.set b (subP q p)))[(((rowf n b y.toNat : Nat) : Int)).toNat]?).getD (0, 0) = _
  rw [Int.toNat_natCast, lonA_get hM hbn a4, a2, List.getElem?_set_ne (by omega)]
/-- the goes of the lesser change, sort 1 -/
theorem one1 (K : Okp r k L O) (h2 : O.getLast? = some (b : Int)) (h1 : L.getLast? = some p) (h3 : L[b]? = some q) (hlt : ltP r p q = true) (hbn : b + 1 < L.length)
    (K' : Okp r (k + 1) (lonA L.length b (L.set b (subP q p))) (ordA L.length b O)) (hx : leP r (0, 0) x) (zx : Zp r x) (hw : ltP r x (subP (sumP L) p) = true) :
    (pc r (lonA L.length b (L.set b (subP q p))) x ≠ b + 1 → pc r L x = ahf L.length b (pc r (lonA L.length b (L.set b (subP q p))) x) ∧ T r L O x = T r (lonA L.length b (L.set b (subP q p))) (ordA L.length b O) x) ∧
    (pc r (lonA L.length b (L.set b (subP q p))) x = b + 1 → pc r L x = b ∧ leP r (subP (sumP L) p) (T r L O x) ∧ pc r L (T r L O x) = L.length - 1 ∧ T r L O (T r L O x) = T r (lonA L.length b (L.set b (subP q p))) (ordA L.length b O) x) := by
  have hlp : L[L.length - 1]? = some p := by rw [← List.getLast?_eq_getElem?]; exact h1
  have hn : O.Nodup := K.hp.nodup_iff.mpr (upto_nodup _)
  obtain ⟨g1, g2, g3⟩ := bgA (p := p) (q := q) rfl hbn h1 h3
  have hla : ∀ i, i < L.length → lat (lonA L.length b (L.set b (subP q p))) (ordA L.length b O) (rowf L.length b i) = lat L O i := fun i hi => latA rfl hbn K.hp h2 (by have := K'.hp; rwa [lonA_len] at this) hi
  have hlen' : (lonA L.length b (L.set b (subP q p))).length = L.length := lonA_len _ _ _
  have hset : sumP (lonA L.length b (L.set b (subP q p))) = subP (sumP L) p := by
    rw [sumP_perm (lonA_perm List.length_set hbn)]
    exact sumP_set h3
  have zpp := K.z p (List.mem_of_getElem? hlp)
  have zqq := K.z q (List.mem_of_getElem? h3)
  have posp := K.pos p (List.mem_of_getElem? hlp)
  generalize lonA L.length b (L.set b (subP q p)) = L' at *
  generalize ordA L.length b O = O' at *
  obtain ⟨a1, a2, _⟩ := pc_spec (r := r) (L := L') (x := x) K'.h0 hx
  have a3 := pc_end (r := r) (L := L') K'.h0 hx (by rw [hset]; exact hw)
  rw [hlen'] at a1
  have hwL : ltP r x (sumP L) = true := lt_trans K.hr.nn hw (by
    have := lt_step (p := subP (sumP L) p) posp
    rwa [show addP (subP (sumP L) p) p = sumP L from (addsub x (sumP L) p).2] at this)
  have hbgt : addP (bg L (L.length - 1)) p = sumP L := by rw [← bg_succ hlp, bg_all (by omega)]
  refine ⟨fun hne => ?_, fun he => ?_⟩
  · generalize hi' : pc r L' x = i at *
    by_cases hib : i ≤ b
    · have hpc : pc r L x = i := by
        refine pc_eq K.hr K.z K.pos zx (by omega) (by rw [← g1 i hib]; exact a2) ?_
        by_cases hl : i < b
        · rw [← g1 (i + 1) hl]; exact a3
        · have : i = b := by omega
          subst this
          rw [g2] at a3
          rw [bg_succ h3]
          refine lt_trans K.hr.nn a3 ?_
          rw [lt_addl]
          have := lt_step (p := subP q p) posp
          rwa [show addP (subP q p) p = q from (addsub x q p).2] at this
      refine ⟨by rw [hpc]; unfold ahf; rw [if_pos hib], ?_⟩
      have hr1 : rowf L.length b i = i := by unfold rowf; rw [if_pos hib]
      have := hla i (by omega)
      rw [hr1] at this
      rw [Tby hpc, Tby hi', this, g1 i hib]
    · have hi2 : b + 2 ≤ i := by omega
      obtain ⟨j, rfl⟩ : ∃ j, i = j + 1 := ⟨i - 1, by omega⟩
      have e1 := g3 j (by omega) (by omega)
      have e2 := g3 (j + 1) (by omega) (by omega)
      have hpc : pc r L x = j := pc_eq K.hr K.z K.pos zx (by omega) (by rw [← e1]; exact a2) (by rw [← e2]; exact a3)
      refine ⟨by rw [hpc]; unfold ahf; rw [if_neg (by omega), if_neg (by omega)]; rfl, ?_⟩
      have hr1 : rowf L.length b j = j + 1 := by unfold rowf; rw [if_neg (by omega), if_neg (by omega)]
      have := hla j (by omega)
      rw [hr1] at this
      rw [Tby hpc, Tby hi', this, e1]
  · rw [he] at a2 a3
    rw [g2] at a2
    rw [g3 (b + 1) (Nat.le_refl _) hbn] at a3
    have hbq : leP r (bg L b) (addP (bg L b) (subP q p)) := le_of_lt K.hr.nn (lt_step (pos_sub K.hr zqq zpp hlt))
    have hpc : pc r L x = b := pc_eq K.hr K.z K.pos zx (by omega) (le_trans K.hr (zp_bg K.z b) (zp_add (zp_bg K.z b) (zp_sub zqq zpp)) hbq a2) a3
    have hTx : T r L O x = addP x (subP (lat L O b) (bg L b)) := Tby hpc
    have hrt : rowf L.length b (L.length - 1) = b + 1 := by unfold rowf; rw [if_neg (by omega), if_pos rfl]
    have hlt1 := hla (L.length - 1) (by omega)
    rw [hrt] at hlt1
    have hT' : T r L' O' x = addP x (subP (lat L O (L.length - 1)) (addP (bg L b) (subP q p))) := by rw [Tby he, hlt1, g2]
    -- b lies last
    obtain ⟨P, hP⟩ : ∃ P, O = P ++ [(b : Int)] := by
      have hne : O ≠ [] := by intro e; rw [e] at h2; cases h2
      refine ⟨O.dropLast, ?_⟩
      rw [List.getLast?_eq_some_getLast hne] at h2
      rw [← Option.some.inj h2, List.dropLast_concat_getLast]
    have elb : lat L O b = subP (sumP L) q := by
      rw [lat_split (Q := []) hP hn, ← sumP_perm (lonO_all K.hp), hP, lonO_app, lonO_one L b h3, sumP_app, sumP_one]
      unfold addP subP
      exact Prod.ext (by show _ = (sumP (lonO L P)).1 + q.1 - q.1; omega) (by show _ = (sumP (lonO L P)).2 + q.2 - q.2; omega)
    have zw : Zp r (subP (sumP L) p) := zp_sub (zp_sum K.z) zpp
    have zT : Zp r (T r L O x) := T_z K zx
    have h5 : leP r (subP (sumP L) p) (T r L O x) := by
      rw [hTx, elb]
      have e1 : addP x (subP (subP (sumP L) q) (bg L b)) = addP (subP (subP (sumP L) q) (bg L b)) x := (addsub x (subP (sumP L) q) (bg L b)).1
      have e2 : subP (sumP L) p = addP (subP (subP (sumP L) q) (bg L b)) (addP (bg L b) (subP q p)) := by
        unfold addP subP
        exact Prod.ext (by show (sumP L).1 - p.1 = (sumP L).1 - q.1 - (bg L b).1 + ((bg L b).1 + (q.1 - p.1)); omega) (by show (sumP L).2 - p.2 = (sumP L).2 - q.2 - (bg L b).2 + ((bg L b).2 + (q.2 - p.2)); omega)
      show ltP r _ (subP (sumP L) p) = false
      rw [e1, e2, lt_addl]
      exact a2
    have hTw := T_lt K hx zx hwL
    have e1 : bg L (L.length - 1) = subP (sumP L) p := by
      rw [← hbgt]
      unfold addP subP
      exact Prod.ext (by show _ = (bg L (L.length - 1)).1 + p.1 - p.1; omega) (by show _ = (bg L (L.length - 1)).2 + p.2 - p.2; omega)
    have h6 : pc r L (T r L O x) = L.length - 1 := pc_eq K.hr K.z K.pos zT (by omega) (by rw [e1]; exact h5) (by rw [bg_all (by omega)]; exact hTw)
    refine ⟨hpc, h5, h6, ?_⟩
    rw [Tby h6, hTx, hT', elb, e1]
    unfold addP subP
    exact Prod.ext (by show x.1 + ((sumP L).1 - q.1 - (bg L b).1) + ((lat L O (L.length - 1)).1 - ((sumP L).1 - p.1)) = x.1 + ((lat L O (L.length - 1)).1 - ((bg L b).1 + (q.1 - p.1))); omega) (by show x.2 + ((sumP L).2 - q.2 - (bg L b).2) + ((lat L O (L.length - 1)).2 - ((sumP L).2 - p.2)) = x.2 + ((lat L O (L.length - 1)).2 - ((bg L b).2 + (q.2 - p.2))); omega)
end
/-! ### rows of first returns -/
abbrev Rws := List (List Nat)
/-- the rows behind a step -/
def dbl (b top : Nat) (X : Rws) : List Nat := X.getD b [] ++ X.getD top []
def rowsN (s : Int) (n b : Nat) (X : Rws) : Rws := if s = 0 then X.set b (dbl b (n - 1) X) else (List.range n).map fun j => (X.set (n - 1) (dbl b (n - 1) X)).getD (ahf n b j) []
theorem rowsN_len {s : Int} {n b : Nat} {X : Rws} (h : X.length = n) : (rowsN s n b X).length = n := by
  unfold rowsN
  split
  · rw [List.length_set, h]
  · rw [List.length_map, List.length_range]
theorem getD_at {α : Type} {X : List α} {i : Nat} {a d : α} (h : X[i]? = some a) : X.getD i d = a := by rw [List.getD_eq_getElem?_getD, h]; rfl
theorem rows0_same {n b i : Nat} {X : Rws} (h : i ≠ b) : (rowsN 0 n b X).getD i [] = X.getD i [] := by
  unfold rowsN
  rw [if_pos rfl, List.getD_eq_getElem?_getD, List.getElem?_set_ne (Ne.symm h), ← List.getD_eq_getElem?_getD]
theorem rows0_dbl {n b : Nat} {X : Rws} (hl : X.length = n) (h : b < n) : (rowsN 0 n b X).getD b [] = dbl b (n - 1) X := by
  unfold rowsN
  rw [if_pos rfl]
  exact getD_at (List.getElem?_set_self (by omega))
theorem rows1_same {n b i : Nat} {X : Rws} (hb : b + 1 < n) (hi : i < n) (h : i ≠ b + 1) : (rowsN 1 n b X).getD i [] = X.getD (ahf n b i) [] := by
  have hne : n - 1 ≠ ahf n b i := by
    unfold ahf
    repeat' split
    all_goals omega
  unfold rowsN
  rw [if_neg (by decide)]
  refine (getD_at (a := (X.set (n - 1) (dbl b (n - 1) X)).getD (ahf n b i) []) (by rw [List.getElem?_map, List.getElem?_range hi]; rfl)).trans ?_
  rw [List.getD_eq_getElem?_getD, List.getElem?_set_ne hne, ← List.getD_eq_getElem?_getD]
theorem rows1_dbl {n b : Nat} {X : Rws} (hl : X.length = n) (hb : b + 1 < n) : (rowsN 1 n b X).getD (b + 1) [] = dbl b (n - 1) X := by
  have ha : ahf n b (b + 1) = n - 1 := by unfold ahf; rw [if_neg (by omega), if_pos rfl]
  unfold rowsN
  rw [if_neg (by decide)]
  refine (getD_at (a := (X.set (n - 1) (dbl b (n - 1) X)).getD (ahf n b (b + 1)) []) (by rw [List.getElem?_map, List.getElem?_range hb]; rfl)).trans ?_
  rw [ha]
  exact getD_at (List.getElem?_set_self (by omega))
/-- a point's goes until it is below w -/
inductive W (r : Int) (L : List Pr) (O : List Int) (w : Pr) : Pr → List Nat → Pr → Prop
  | one {x : Pr} : ltP r (T r L O x) w = true → W r L O w x [pc r L x] (T r L O x)
  | more {x y : Pr} {row : List Nat} : leP r w (T r L O x) → W r L O w (T r L O x) row y → W r L O w x (pc r L x :: row) y
section
variable {r : Int} {L : List Pr} {O : List Int} {w w' x y z : Pr} {row row2 : List Nat}
theorem W.weak (hr : okRoot r) (zw : Zp r w) (zw' : Zp r w') (h : leP r w' w) : ∀ {x : Pr} {row : List Nat} {y : Pr}, W r L O w x row y → ltP r y w' = true → W r L O w' x row y
  | _, _, _, .one _, hy => .one hy
  | _, _, _, .more a b, hy => .more (le_trans hr zw' zw h a) (b.weak hr zw zw' h hy)
theorem W.app (hr : okRoot r) (zw : Zp r w) (zw' : Zp r w') (h : leP r w' w) : ∀ {x : Pr} {row : List Nat} {y : Pr}, W r L O w x row y → leP r w' y → W r L O w' y row2 z → W r L O w' x (row ++ row2) z
  | _, _, _, .one _, hy, h2 => .more hy h2
  | _, _, _, .more a b, hy, h2 => .more (le_trans hr zw' zw h a) (b.app hr zw zw' h hy h2)
end
/-- rows are the words of first returns -/
structure Ret (r : Int) (L0 : List Pr) (O0 : List Int) (L : List Pr) (O : List Int) (X : Rws) : Prop where
  len : X.length = L.length
  ret : ∀ x, leP r (0, 0) x → Zp r x → ltP r x (sumP L) = true → W r L0 O0 (sumP L) x (X.getD (pc r L x) []) (T r L O x)
theorem Ret.start {r : Int} {k : Nat} {L : List Pr} {O : List Int} (K : Okp r k L O) : Ret r L O L O ((List.range L.length).map fun i => [i]) where
  len := by rw [List.length_map, List.length_range]
  ret := fun x hx zx hw => by
    have hp := (pc_spec (r := r) (L := L) (x := x) K.h0 hx).1
    rw [getD_at (a := [pc r L x]) (by rw [List.getElem?_map, List.getElem?_range hp]; rfl)]
    exact .one (T_lt K hx zx hw)
theorem Ret.step {r : Int} {k k' m : Nat} {L0 L L' : List Pr} {O0 O O' : List Int} {X : Rws} {s : Int} {b : Nat} (K0 : Okp r m L0 O0) (K : Okp r k L O) (K' : Okp r k' L' O') (h : Ret r L0 O0 L O X) (hl : L'.length = L.length) (hle : leP r (sumP L') (sumP L)) (hlt : ∀ x, ltP r x (sumP L') = true → Zp r x → ltP r x (sumP L) = true) (hbn : b + 1 < L.length)
    (ind : ∀ x, leP r (0, 0) x → Zp r x → ltP r x (sumP L') = true →
      ((rowsN s L.length b X).getD (pc r L' x) [] = X.getD (pc r L x) [] ∧ T r L O x = T r L' O' x) ∨
      ((rowsN s L.length b X).getD (pc r L' x) [] = X.getD (pc r L x) [] ++ X.getD (pc r L (T r L O x)) [] ∧ leP r (sumP L') (T r L O x) ∧ T r L O (T r L O x) = T r L' O' x)) :
    Ret r L0 O0 L' O' (rowsN s L.length b X) where
  len := by rw [rowsN_len h.len, hl]
  ret := fun x hx zx hw => by
    have zw := zp_sum K.z
    have zw' := zp_sum K'.z
    have h1 := h.ret x hx zx (hlt x hw zx)
    have hT' := T_lt K' hx zx hw
    rcases ind x hx zx hw with ⟨e1, e2⟩ | ⟨e1, e2, e3⟩
    · rw [e1, ← e2]
      rw [← e2] at hT'
      exact h1.weak K.hr zw zw' hle hT'
    · have nT := T_nn K hx zx
      have zT := T_z K zx
      have h2 := h.ret _ nT zT (T_lt K hx zx (hlt x hw zx))
      rw [e3] at h2
      rw [e1]
      exact h1.app K.hr zw zw' hle e2 (h2.weak K.hr zw zw' hle hT')
/-! ### a step, all told -/
structure Sg (r : Int) (k : Nat) (L : List Pr) (O : List Int) (s : Int) (b : Nat) (L' : List Pr) (O' : List Int) : Prop where
  hs : s = 0 ∨ s = 1
  hb : O.getLast? = some (b : Int)
  hbn : b + 1 < L.length
  ev : d_p_is_even [.dat (chN r L O)] = some (.inr (false, .bool false), [.no])
  st : d_p_step_of [.dat (chN r L O)] = some (.inr (false, .tuple [.int s, chN r L' O']), [.no])
  sr : ∃ M P : List D, d_p_step_rows [.dat (chN r L O)] = some (.inr (false, .tuple [.int s, .list M, .list P, .list ((if s = 0 then upto L.length else ahL L.length b).map PyData.int)]), [.no])
  le : d_lesser [.dat (chN r L O)] = some (.inr (false, .tuple [.int s, chN r L' O']), [.no])
  K' : Okp r (k + 1) L' O'
  hl : L'.length = L.length
  ret : ∀ {m : Nat} {L0 : List Pr} {O0 : List Int} {X : Rws}, Okp r m L0 O0 → Ret r L0 O0 L O X → Ret r L0 O0 L' O' (rowsN s L.length b X)
  ex : (s = 0 ∧ ∃ (p q : Pr) (A B : List Int), L.getLast? = some p ∧ L[b]? = some q ∧ O = A ++ ((L.length : Int) - 1) :: B ++ [(b : Int)] ∧ ltP r q p = true ∧ L' = L.set (L.length - 1) (subP p q) ∧ O' = A ++ ((L.length : Int) - 1) :: (b : Int) :: B) ∨
    (s = 1 ∧ ∃ (p q : Pr), L.getLast? = some p ∧ L[b]? = some q ∧ ltP r p q = true ∧ L' = lonA L.length b (L.set b (subP q p)) ∧ O' = ordA L.length b O)
theorem lesser_even {r : Int} {L : List Pr} {O : List Int} {p q : Pr} {b : Nat} (h0 : 1 ≤ L.length) (h1 : L.getLast? = some p) (h2 : O.getLast? = some (b : Int)) (h3 : L[b]? = some q) (e : p = q) : d_lesser [.dat (chN r L O)] = some (.inr (false, .none), [.no]) := by
  have hlp : L[L.length - 1]? = some p := by rw [← List.getLast?_eq_getElem?]; exact h1
  have e1 := atI_last (last_map h2)
  have el : ((L.map nmP).length : Int) - 1 = ((L.length - 1 : Nat) : Int) := by rw [List.length_map]; omega
  have e2 : atI (L.map nmP) ((L.length - 1 : Nat) : Int) = some (nmP p) := by rw [atI_natE, List.getElem?_map, hlp]; rfl
  have e3 : atI (L.map nmP) ((b : Nat) : Int) = some (nmP q) := by rw [atI_natE, List.getElem?_map, h3]; rfl
  have e4 := hEq_nm p q
  rw [decide_eq_true e] at e4
  show d_lesser [.dat (.tuple [.int r, .tuple (L.map nmP), .tuple (O.map PyData.int)])] = _
  generalize nmP p = P at *
  generalize nmP q = Q at *
  generalize L.map nmP = LL at *
  simp only [d_lesser, mkFn, sCons, sSet, sPar, sUnp, sIf, sRet, sRetN, sDrop, sNil, sBrk, sCnt, bndS, bnd, rt, opt, fVar, fVal, fBin, fUn, rd1, rd2, Rv.rd, Sl.rd, fD, fzM, Rv.fz, fCons, fNil, dCons, dNil, aCons, aNil, aBoxN, aBox, fCall, resolve, boxes, bxpos, wb, fNm, rdAll, fTup, fLst, hAdd, hSub, hInt2, hMulL, hLt, hLe, hGt, hGe, hNeg, hAbs, hLen, hInt1, hMax2, hMin2, hIx, fSl, oNone, oSome, hSl, fB, toB, fAnd, fOr, fNot, fAndV, fOrV, fNotV, fChain, kName, kTup, kCons, kNil, slOk, sStore, fMt, mtGo, hApp, hFdiv, hMod, hDivmod, outs, List.length_cons, List.length_nil, List.getElem?_cons_zero, List.getElem?_cons_succ, List.getElem?_nil, List.set_cons_zero, List.set_cons_succ, List.replicate_succ, List.replicate_zero, List.cons_append, List.nil_append, Option.bind_some, Option.map_some, cond_true, cond_false, ite_true, ite_false, Nat.reduceAdd, Nat.reduceSub, Nat.reduceEqDiff, Nat.reduceLeDiff, if_true, if_false, reduceIte, atI_n0, atI_n1, atI_n2, atI_n3, ixN_10, ixN_20, ixN_21, hEq_int, hNe_int, Bool.not_true, decide_true, decide_false, hTuple, sTryK, sRaise, Bool.false_eq_true, Bool.not_false, sz0, sz1, sz2, sz3, sz4, sz5, sz6, sz7, sz8, el, e1, e2, e3, e4]
theorem nmP_ne {p q : Pr} {a b c d e f : Int} (h : p ≠ q) (e1 : nmP p = tup3 a b c) (e2 : nmP q = tup3 d e f) : ¬ (a = d ∧ b = e ∧ c = f) := by
  rintro ⟨rfl, rfl, rfl⟩
  exact h (nmP_inj (e1.trans e2.symm))
theorem set_nm (L : List Pr) (i : Nat) (p : Pr) : (L.map nmP).set i (nmP p) = (L.set i p).map nmP := List.map_set.symm
theorem sg_all {r : Int} {k : Nat} {L : List Pr} {O : List Int} (K : Okp r k L O) (hk : k + 1 + L.length ≤ 300) :
    (d_p_is_even [.dat (chN r L O)] = some (.inr (false, .bool true), [.no]) ∧ d_lesser [.dat (chN r L O)] = some (.inr (false, .none), [.no])) ∨
      ∃ (s : Int) (b : Nat) (L' : List Pr) (O' : List Int), Sg r k L O s b L' O' := by
  have hlenO : O.length = L.length := by rw [K.hp.length_eq, upto_length]
  have h0 := K.h0
  have hlast : L[L.length - 1]? = some (L[L.length - 1]'(by omega)) := List.getElem?_eq_getElem _
  obtain ⟨p, hp1⟩ : ∃ p, L.getLast? = some p := ⟨_, by rw [List.getLast?_eq_getElem?]; exact hlast⟩
  obtain ⟨x, hx⟩ : ∃ x, O.getLast? = some x := ⟨_, by rw [List.getLast?_eq_getElem?]; exact List.getElem?_eq_getElem (by omega)⟩
  have hm := upto_mem.mp (K.hp.mem_iff.mp (List.mem_of_getLast? hx))
  obtain ⟨b, rfl⟩ : ∃ b : Nat, x = (b : Int) := ⟨x.toNat, by omega⟩
  have hb : b < L.length := by omega
  have hq : L[b]? = some L[b] := List.getElem?_eq_getElem hb
  have mp := List.mem_of_getLast? hp1
  have mq := List.mem_of_getElem? hq
  have ev := even_eq (r := r) hp1 hx hq
  generalize L[b] = q at hq mq ev
  by_cases hne : p = q
  · rw [decide_eq_true hne] at ev
    exact .inl ⟨ev, lesser_even h0 hp1 hx hq hne⟩
  rw [decide_eq_false hne] at ev
  refine .inr ?_
  have hlp : L[L.length - 1]? = some p := by rw [← List.getLast?_eq_getElem?]; exact hp1
  have hbn : b + 1 < L.length := by
    by_cases h : b = L.length - 1
    · rw [h, hlp] at hq
      exact absurd (Option.some.inj hq) hne
    · omega
  have zq := K.z q mq
  have zp := K.z p mp
  have hz : r = 0 → q.2 = 0 ∧ p.2 = 0 := fun h => ⟨zq h, zp h⟩
  have bp := BtP.mono (K.bt p mp) (show k ≤ 700 by omega)
  have bq := BtP.mono (K.bt q mq) (show k ≤ 700 by omega)
  have br : Bt 60 r := by rcases K.hr with h | h | h | h | h <;> subst h <;> decide
  obtain ⟨pa, pb, pc', e1, n1⟩ := nm_ex p.1 p.2
  obtain ⟨qa, qb, qc, e2, n2⟩ := nm_ex q.1 q.2
  obtain ⟨ua, ub, uc, e3, n3⟩ := nm_ex (p.1 - q.1) (p.2 - q.2)
  obtain ⟨va, vb, vc, e4, n4⟩ := nm_ex (q.1 - p.1) (q.2 - p.2)
  have e1' : nmP p = tup3 pa pb pc' := e1
  have e2' : nmP q = tup3 qa qb qc := e2
  have e3' : nmP (subP p q) = tup3 ua ub uc := e3
  have e4' : nmP (subP q p) = tup3 va vb vc := e4
  have hgx : (L.map nmP)[L.length - 1]? = some (tup3 pa pb pc') := by rw [List.getElem?_map, hlp, ← e1']; rfl
  have hgy : (L.map nmP)[b]? = some (tup3 qa qb qc) := by rw [List.getElem?_map, hq, ← e2']; rfl
  have hlm : (L.map nmP).length = L.length := List.length_map _
  have etop : ((L.length : Int) - 1) = ((L.length - 1 : Nat) : Int) := by omega
  have hl400 : L.length ≤ 400 := by omega
  cases hlt : ltP r q p with
  | true =>
    have hn : O.Nodup := K.hp.nodup_iff.mpr (upto_nodup _)
    have hO1 : O = O.dropLast ++ [(b : Int)] := by
      have hne0 : O ≠ [] := by intro h; rw [h] at hx; cases hx
      have := List.dropLast_concat_getLast hne0
      rw [← this]
      congr 1
      · rw [this]
      · rw [List.getLast?_eq_some_getLast hne0] at hx
        rw [Option.some.inj hx]
    have hmt : ((L.length : Int) - 1) ∈ O := K.hp.mem_iff.mpr (upto_mem.mpr (by omega))
    rw [hO1] at hmt
    have hmt2 : ((L.length : Int) - 1) ∈ O.dropLast := by
      rcases List.mem_append.mp hmt with h | h
      · exact h
      · have := List.mem_singleton.mp h
        omega
    obtain ⟨A, B, hAB⟩ := List.append_of_mem hmt2
    have hO : O = A ++ ((L.length : Int) - 1) :: B ++ [(b : Int)] := by rw [← hAB]; exact hO1
    have hp2 : (A ++ ((L.length : Int) - 1) :: (b : Int) :: B).Perm (upto L.length) := by
      refine List.Perm.trans ?_ K.hp
      rw [hO]
      refine (List.Perm.append_left A ?_).trans (by rw [List.append_assoc])
      show (((L.length : Int) - 1) :: (b : Int) :: B).Perm (((L.length : Int) - 1) :: B ++ [(b : Int)])
      exact (List.perm_append_singleton (b : Int) B).symm.cons _
    have K' : Okp r (k + 1) (L.set (L.length - 1) (subP p q)) (A ++ ((L.length : Int) - 1) :: (b : Int) :: B) := ⟨K.hr, by rw [List.length_set]; exact hp2, by rw [List.length_set]; exact h0, Nat.le_add_left 1 k, by rw [List.length_set]; exact hk, fun y hy => by
      rcases mem_set hy with rfl | hy
      · exact BtP.sub (K.bt p mp) (K.bt q mq)
      · exact BtP.mono (K.bt y hy) (by omega), fun y hy => by
      rcases mem_set hy with rfl | hy
      · exact zp_sub zp zq
      · exact K.z y hy, fun y hy => by
      rcases mem_set hy with rfl | hy
      · exact pos_sub K.hr zp zq hlt
      · exact K.pos y hy⟩
    have hsum : sumP (L.set (L.length - 1) (subP p q)) = subP (sumP L) q := sumP_set hlp
    have hws : ltP r (subP (sumP L) q) (sumP L) = true := by
      have := lt_step (p := subP (sumP L) q) (K.pos q mq)
      rwa [show addP (subP (sumP L) q) q = sumP L from (addsub q (sumP L) q).2] at this
    refine ⟨0, b, _, _, .inl rfl, hx, hbn, ev, step0 hO K.hp rfl h0 hl400 hp1 hq hne K.hr hz bp bq hlt, ⟨_, _, by rw [if_pos rfl]; exact rows0 hO K.hp rfl h0 hl400 hp1 hq hne K.hr hz bp bq hlt⟩, ?_, K', List.length_set, fun K0 h => ?_, .inl ⟨rfl, p, q, A, B, hp1, hq, hO, hlt, rfl, rfl⟩⟩
    · have hv : negV r ua ub = false := by
        rw [negV_scale n3.pos n3.h1 n3.h2]
        have := lt_asymm K.hr.nn hlt
        exact this
      have hp' : (A ++ ((L.length : Int) - 1) :: B ++ [(b : Int)]).Perm (upto (L.map nmP).length) := by rw [hlm, ← hO]; exact K.hp
      have := lesser0 (r := r) (L := L.map nmP) (top := (L.length : Int) - 1) hp' (by rw [hlm]; exact hl400) (by rw [hlm]) (by rw [show ((L.length : Int) - 1).toNat = L.length - 1 by omega]; exact hgx) (by rw [Int.toNat_natCast]; exact hgy) n1.pos n2.pos ((n1.ba bp.1).mono (by decide)) ((n1.bb bp.2).mono (by decide)) (n1.bc.mono (by decide)) ((n2.ba bq.1).mono (by decide)) ((n2.bb bq.2).mono (by decide)) (n2.bc.mono (by decide)) br (nmP_ne hne e1' e2') ((low_sub n1 n2).trans e3) hv
      rw [← hO, show ((L.length : Int) - 1).toNat = L.length - 1 by omega, ← e3', set_nm] at this
      exact this
    · refine Ret.step K0 K K' h List.length_set (by rw [hsum]; exact le_of_lt K.hr.nn hws) (fun x hx zx => by rw [hsum] at hx; exact lt_trans K.hr.nn hx hws) hbn fun x hx zx hw => ?_
      rw [hsum] at hw ⊢
      obtain ⟨c1, c2⟩ := one0 K hO hp1 hq hlt hbn K' hx zx hw
      by_cases e : pc r (L.set (L.length - 1) (subP p q)) x = b
      · obtain ⟨d1, d2, d3, d4⟩ := c2 e
        refine .inr ⟨?_, d2, d4⟩
        rw [e, rows0_dbl h.len hb, d1, d3]
        rfl
      · obtain ⟨d1, d2⟩ := c1 e
        refine .inl ⟨?_, d2⟩
        rw [rows0_same e, d1]
  | false =>
    have hlt2 : ltP r p q = true := by
      rcases lt_tri K.hr zp zq with h | h | h
      · exact h
      · exact absurd h hne
      · rw [hlt] at h; cases h
    have hM : (L.set b (subP q p)).length = L.length := List.length_set
    have hpm := lonA_perm hM hbn
    have K' : Okp r (k + 1) (lonA L.length b (L.set b (subP q p))) (ordA L.length b O) := ⟨K.hr, by rw [lonA_len]; exact ordA_perm hbn K.hp, by rw [lonA_len]; exact h0, Nat.le_add_left 1 k, by rw [lonA_len]; exact hk, fun y hy => by
      rcases mem_set (hpm.mem_iff.mp hy) with rfl | hy
      · exact BtP.sub (K.bt q mq) (K.bt p mp)
      · exact BtP.mono (K.bt y hy) (by omega), fun y hy => by
      rcases mem_set (hpm.mem_iff.mp hy) with rfl | hy
      · exact zp_sub zq zp
      · exact K.z y hy, fun y hy => by
      rcases mem_set (hpm.mem_iff.mp hy) with rfl | hy
      · exact pos_sub K.hr zq zp hlt2
      · exact K.pos y hy⟩
    have hsum : sumP (lonA L.length b (L.set b (subP q p))) = subP (sumP L) p := by
      rw [sumP_perm hpm]
      exact sumP_set hq
    have hws : ltP r (subP (sumP L) p) (sumP L) = true := by
      have := lt_step (p := subP (sumP L) p) (K.pos p mp)
      rwa [show addP (subP (sumP L) p) p = sumP L from (addsub p (sumP L) p).2] at this
    refine ⟨1, b, _, _, .inr rfl, hx, hbn, ev, step1 hx hbn K.hp h0 hl400 hp1 hq hne K.hr hz bp bq hlt, ⟨_, _, by rw [if_neg (by decide)]; exact rows1 hx hbn K.hp h0 hl400 hp1 hq hne K.hr hz bp bq hlt⟩, ?_, K', lonA_len _ _ _, fun K0 h => ?_, .inr ⟨rfl, p, q, hp1, hq, hlt2, rfl, rfl⟩⟩
    · have hv : negV r ua ub = true := by
        rw [negV_scale n3.pos n3.h1 n3.h2]
        exact hlt2
      have hp' : O.Perm (upto (L.map nmP).length) := by rw [hlm]; exact K.hp
      have := lesser1 (r := r) (L := L.map nmP) hp' (by rw [hlm]; exact hl400) (top := (L.length : Int) - 1) (by rw [hlm]) hx (by omega) (by rw [show ((L.length : Int) - 1).toNat = L.length - 1 by omega]; exact hgx) hgy n1.pos n2.pos ((n1.ba bp.1).mono (by decide)) ((n1.bb bp.2).mono (by decide)) (n1.bc.mono (by decide)) ((n2.ba bq.1).mono (by decide)) ((n2.bb bq.2).mono (by decide)) (n2.bc.mono (by decide)) br (nmP_ne hne e1' e2') ((low_sub n1 n2).trans e3) hv ((low_sub n2 n1).trans e4)
      rw [hlm, ← e4', set_nm] at this
      have ea := lonA_D hM hbn
      have eo := ordA_eq hbn (fun x hx => K.hp.mem_iff.mp hx)
      rw [ea, eo] at this
      exact this
    · refine Ret.step K0 K K' h (lonA_len _ _ _) (by rw [hsum]; exact le_of_lt K.hr.nn hws) (fun x hx zx => by rw [hsum] at hx; exact lt_trans K.hr.nn hx hws) hbn fun x hx zx hw => ?_
      rw [hsum] at hw ⊢
      obtain ⟨c1, c2⟩ := one1 K (by exact ‹O.getLast? = some (b : Int)›) hp1 hq hlt2 hbn K' hx zx hw
      have hpcl := (pc_spec (r := r) (L := lonA L.length b (L.set b (subP q p))) (x := x) K'.h0 hx).1
      rw [lonA_len] at hpcl
      by_cases e : pc r (lonA L.length b (L.set b (subP q p))) x = b + 1
      · obtain ⟨d1, d2, d3, d4⟩ := c2 e
        refine .inr ⟨?_, d2, d4⟩
        rw [e, rows1_dbl h.len hbn, d1, d3]
        rfl
      · obtain ⟨d1, d2⟩ := c1 e
        refine .inl ⟨?_, d2⟩
        rw [rows1_same hbn hpcl e, d1]
/-! ### counts looked at -/
theorem count_is {m lo hi : Int} (h0 : lo ≤ m) (h1 : m ≤ hi) : d_p_look_at_count [.dat (.int m), .dat (.int lo), .dat (.int hi)] = some (.inr (false, .none), [.no, .no, .no]) := by
  have i1 := isi_ok m
  have d1 := decide_eq_true h0
  have d2 := decide_eq_true h1
  simp only [d_p_look_at_count, mkFn, sCons, sSet, sPar, sUnp, sIf, sRet, sRetN, sDrop, sNil, sBrk, sCnt, bndS, bnd, rt, opt, fVar, fVal, fBin, fUn, rd1, rd2, Rv.rd, Sl.rd, fD, fzM, Rv.fz, fCons, fNil, dCons, dNil, aCons, aNil, aBoxN, aBox, fCall, resolve, boxes, bxpos, wb, fNm, rdAll, fTup, fLst, hAdd, hSub, hInt2, hMulL, hLt, hLe, hGt, hGe, hNeg, hAbs, hLen, hInt1, hMax2, hMin2, hIx, fSl, oNone, oSome, hSl, fB, toB, fAnd, fOr, fNot, fAndV, fOrV, fNotV, fChain, kName, kTup, kCons, kNil, slOk, sStore, fMt, mtGo, hApp, hFdiv, hMod, hDivmod, outs, List.length_cons, List.length_nil, List.getElem?_cons_zero, List.getElem?_cons_succ, List.getElem?_nil, List.set_cons_zero, List.set_cons_succ, List.replicate_succ, List.replicate_zero, List.cons_append, List.nil_append, Option.bind_some, Option.map_some, cond_true, cond_false, ite_true, ite_false, Nat.reduceAdd, Nat.reduceSub, Nat.reduceEqDiff, Nat.reduceLeDiff, if_true, if_false, reduceIte, atI_n0, atI_n1, atI_n2, atI_n3, ixN_10, ixN_20, ixN_21, hEq_int, hNe_int, Bool.not_true, decide_true, decide_false, hTuple, sTryK, sRaise, Bool.false_eq_true, Bool.not_false, sz0, sz1, sz2, sz3, sz4, sz5, sz6, sz7, sz8, i1.1, i1.2, d1, d2]
theorem count_not {lo hi : Int} (x : D) (h : (∃ i, x = .int i ∧ (i < lo ∨ hi < i)) ∨ hIsi "int" x = some (.val (.bool false)) ∨ (hIsi "int" x = some (.val (.bool true)) ∧ hIsi "bool" x = some (.val (.bool true)))) :
    d_p_look_at_count [.dat x, .dat (.int lo), .dat (.int hi)] = some (.inl "NoNumber", [.no, .no, .no]) := by
  rcases h with ⟨i, rfl, h⟩ | h | ⟨h, h2⟩
  · obtain ⟨i1, i2⟩ := isi_ok i
    by_cases d : lo ≤ i
    · have d1 := decide_eq_true d
      have d2 : decide (i ≤ hi) = false := decide_eq_false (by omega)
      simp only [d_p_look_at_count, mkFn, sCons, sSet, sPar, sUnp, sIf, sRet, sRetN, sDrop, sNil, sBrk, sCnt, bndS, bnd, rt, opt, fVar, fVal, fBin, fUn, rd1, rd2, Rv.rd, Sl.rd, fD, fzM, Rv.fz, fCons, fNil, dCons, dNil, aCons, aNil, aBoxN, aBox, fCall, resolve, boxes, bxpos, wb, fNm, rdAll, fTup, fLst, hAdd, hSub, hInt2, hMulL, hLt, hLe, hGt, hGe, hNeg, hAbs, hLen, hInt1, hMax2, hMin2, hIx, fSl, oNone, oSome, hSl, fB, toB, fAnd, fOr, fNot, fAndV, fOrV, fNotV, fChain, kName, kTup, kCons, kNil, slOk, sStore, fMt, mtGo, hApp, hFdiv, hMod, hDivmod, outs, List.length_cons, List.length_nil, List.getElem?_cons_zero, List.getElem?_cons_succ, List.getElem?_nil, List.set_cons_zero, List.set_cons_succ, List.replicate_succ, List.replicate_zero, List.cons_append, List.nil_append, Option.bind_some, Option.map_some, cond_true, cond_false, ite_true, ite_false, Nat.reduceAdd, Nat.reduceSub, Nat.reduceEqDiff, Nat.reduceLeDiff, if_true, if_false, reduceIte, atI_n0, atI_n1, atI_n2, atI_n3, ixN_10, ixN_20, ixN_21, hEq_int, hNe_int, Bool.not_true, decide_true, decide_false, hTuple, sTryK, sRaise, Bool.false_eq_true, Bool.not_false, sz0, sz1, sz2, sz3, sz4, sz5, sz6, sz7, sz8, i1, i2, d1, d2, sRaise]
    · have d1 := decide_eq_false d
      simp only [d_p_look_at_count, mkFn, sCons, sSet, sPar, sUnp, sIf, sRet, sRetN, sDrop, sNil, sBrk, sCnt, bndS, bnd, rt, opt, fVar, fVal, fBin, fUn, rd1, rd2, Rv.rd, Sl.rd, fD, fzM, Rv.fz, fCons, fNil, dCons, dNil, aCons, aNil, aBoxN, aBox, fCall, resolve, boxes, bxpos, wb, fNm, rdAll, fTup, fLst, hAdd, hSub, hInt2, hMulL, hLt, hLe, hGt, hGe, hNeg, hAbs, hLen, hInt1, hMax2, hMin2, hIx, fSl, oNone, oSome, hSl, fB, toB, fAnd, fOr, fNot, fAndV, fOrV, fNotV, fChain, kName, kTup, kCons, kNil, slOk, sStore, fMt, mtGo, hApp, hFdiv, hMod, hDivmod, outs, List.length_cons, List.length_nil, List.getElem?_cons_zero, List.getElem?_cons_succ, List.getElem?_nil, List.set_cons_zero, List.set_cons_succ, List.replicate_succ, List.replicate_zero, List.cons_append, List.nil_append, Option.bind_some, Option.map_some, cond_true, cond_false, ite_true, ite_false, Nat.reduceAdd, Nat.reduceSub, Nat.reduceEqDiff, Nat.reduceLeDiff, if_true, if_false, reduceIte, atI_n0, atI_n1, atI_n2, atI_n3, ixN_10, ixN_20, ixN_21, hEq_int, hNe_int, Bool.not_true, decide_true, decide_false, hTuple, sTryK, sRaise, Bool.false_eq_true, Bool.not_false, sz0, sz1, sz2, sz3, sz4, sz5, sz6, sz7, sz8, i1, i2, d1, sRaise]
  · simp only [d_p_look_at_count, mkFn, sCons, sSet, sPar, sUnp, sIf, sRet, sRetN, sDrop, sNil, sBrk, sCnt, bndS, bnd, rt, opt, fVar, fVal, fBin, fUn, rd1, rd2, Rv.rd, Sl.rd, fD, fzM, Rv.fz, fCons, fNil, dCons, dNil, aCons, aNil, aBoxN, aBox, fCall, resolve, boxes, bxpos, wb, fNm, rdAll, fTup, fLst, hAdd, hSub, hInt2, hMulL, hLt, hLe, hGt, hGe, hNeg, hAbs, hLen, hInt1, hMax2, hMin2, hIx, fSl, oNone, oSome, hSl, fB, toB, fAnd, fOr, fNot, fAndV, fOrV, fNotV, fChain, kName, kTup, kCons, kNil, slOk, sStore, fMt, mtGo, hApp, hFdiv, hMod, hDivmod, outs, List.length_cons, List.length_nil, List.getElem?_cons_zero, List.getElem?_cons_succ, List.getElem?_nil, List.set_cons_zero, List.set_cons_succ, List.replicate_succ, List.replicate_zero, List.cons_append, List.nil_append, Option.bind_some, Option.map_some, cond_true, cond_false, ite_true, ite_false, Nat.reduceAdd, Nat.reduceSub, Nat.reduceEqDiff, Nat.reduceLeDiff, if_true, if_false, reduceIte, atI_n0, atI_n1, atI_n2, atI_n3, ixN_10, ixN_20, ixN_21, hEq_int, hNe_int, Bool.not_true, decide_true, decide_false, hTuple, sTryK, sRaise, Bool.false_eq_true, Bool.not_false, sz0, sz1, sz2, sz3, sz4, sz5, sz6, sz7, sz8, h, sRaise]
  · simp only [d_p_look_at_count, mkFn, sCons, sSet, sPar, sUnp, sIf, sRet, sRetN, sDrop, sNil, sBrk, sCnt, bndS, bnd, rt, opt, fVar, fVal, fBin, fUn, rd1, rd2, Rv.rd, Sl.rd, fD, fzM, Rv.fz, fCons, fNil, dCons, dNil, aCons, aNil, aBoxN, aBox, fCall, resolve, boxes, bxpos, wb, fNm, rdAll, fTup, fLst, hAdd, hSub, hInt2, hMulL, hLt, hLe, hGt, hGe, hNeg, hAbs, hLen, hInt1, hMax2, hMin2, hIx, fSl, oNone, oSome, hSl, fB, toB, fAnd, fOr, fNot, fAndV, fOrV, fNotV, fChain, kName, kTup, kCons, kNil, slOk, sStore, fMt, mtGo, hApp, hFdiv, hMod, hDivmod, outs, List.length_cons, List.length_nil, List.getElem?_cons_zero, List.getElem?_cons_succ, List.getElem?_nil, List.set_cons_zero, List.set_cons_succ, List.replicate_succ, List.replicate_zero, List.cons_append, List.nil_append, Option.bind_some, Option.map_some, cond_true, cond_false, ite_true, ite_false, Nat.reduceAdd, Nat.reduceSub, Nat.reduceEqDiff, Nat.reduceLeDiff, if_true, if_false, reduceIte, atI_n0, atI_n1, atI_n2, atI_n3, ixN_10, ixN_20, ixN_21, hEq_int, hNe_int, Bool.not_true, decide_true, decide_false, hTuple, sTryK, sRaise, Bool.false_eq_true, Bool.not_false, sz0, sz1, sz2, sz3, sz4, sz5, sz6, sz7, sz8, h, h2, sRaise]
/-! ### small things -/
theorem goods_pos {r : Int} (hr : okRoot r) : ∀ {L : List Pr}, (∀ x ∈ L.map nmP, GoodL r x) → ∀ p ∈ L, posP r p := fun h p hp => good_pos hr (h _ (List.mem_map.mpr ⟨p, hp, rfl⟩))
theorem isi_list (ds : List D) : hIsi "list" (.list ds) = some (.val (.bool true)) := by
  have : kitB "list" "list" = some true := by decide +kernel
  show (bif true then (kitB "list" "list").map _ else none) = _
  rw [this]; rfl
theorem all_true {α : Type} : ∀ l : List α, hAll [.list (l.map fun _ => .bool true)] = some (.val (.bool true)) := by
  intro l
  have h : ∀ l : List α, asBools (l.map fun _ => PyData.bool true) = some (l.map fun _ => true) := by
    intro l
    induction l with
    | nil => rfl
    | cons x l ih => show (asBools (l.map fun _ => PyData.bool true)).map _ = _; rw [ih]; rfl
  simp only [hAll, h]
  rw [show (l.map fun _ => true).all id = true by simp]
theorem ne_number : hNe (.str "number") (.str "number") = some (.val (.bool false)) := by
  have n1 : noB (.str "number") = true := by decide +kernel
  exact hNe_t (shaped_by 0 n1 (by decide) (by decide)) (shaped_by 0 n1 (by decide) (by decide)) (eqv_same n1)
/-! ### steps done, by the program and by the law -/
noncomputable abbrev wcP : M Bool := fAnd (fB (fBin hLt (fNm hLen (fCons (fVar 2) fNil)) (fVar 1))) (fNot (fB (fCall d_p_is_even (aCons (fVar 0) aNil))))
noncomputable abbrev wbP : SM := sCons (sUnp (fD (fCall d_p_step_of (aCons (fVar 0) aNil))) (kTup 2 (kCons (kName 3) (kCons (kName 0) kNil))))
  (sDrop (fMt 2 hApp (dCons (fVar 3) dNil)))
noncomputable abbrev wcL : M Bool := fB (fBin hLt (fNm hLen (fCons (fVar 2) fNil)) (fVar 1))
noncomputable abbrev wbL : SM := sCons (sSet 3 (fCall d_lesser (aCons (fVar 0) aNil)))
  (sCons (sIf (fB (fBin (hIs false) (fVar 3) (fVal .none))) (sRet (fTup (dCons (fVar 2) (dCons (fVar 0) dNil)))) sNil)
  (sCons (sDrop (fMt 2 hApp (dCons (fBin hIx (fVar 3) (fVal (.int 0))) dNil)))
  (sSet 0 (fBin hIx (fVar 3) (fVal (.int 1))))))
theorem run62 {r : Int} (M : Nat) (hM : M ≤ 200) : ∀ (m k : Nat) (L : List Pr) (O : List Int) (acc : List Int) (s3 t3 : Sl), Okp r k L O → k + m + L.length ≤ 300 → acc.length + m = M →
    ∃ (l : List Int) (L' : List Pr) (O' : List Int), l.length ≤ 200 ∧ (∃ s3' : Sl, sWhile wcP wbP [.dat (chN r L O), .dat (.int (M : Nat)), .own 0 (.list (acc.map PyData.int)), s3] = some (.nx, [.dat (chN r L' O'), .dat (.int (M : Nat)), .own 0 (.list (l.map PyData.int)), s3'])) ∧
      ((∃ t3' : Sl, sWhile wcL wbL [.dat (chN r L O), .dat (.int (M : Nat)), .own 0 (.list (acc.map PyData.int)), t3] = some (.nx, [.dat (chN r L' O'), .dat (.int (M : Nat)), .own 0 (.list (l.map PyData.int)), t3'])) ∨
        ∃ fs' : Fs, fs'.length = 4 ∧ (∀ n d, fs'[0]? ≠ some (.own n d)) ∧ (∀ n d, fs'[1]? ≠ some (.own n d)) ∧ sWhile wcL wbL [.dat (chN r L O), .dat (.int (M : Nat)), .own 0 (.list (acc.map PyData.int)), t3] = some (.ret false (.tuple [.list (l.map PyData.int), chN r L' O']), fs'))
  | 0, k, L, O, acc, s3, t3, K, hk, hl => by
    have d1 : decide ((((acc.map PyData.int).length : Nat) : Int) < ((M : Nat) : Int)) = false := decide_eq_false (by rw [List.length_map]; omega)
    refine ⟨acc, L, O, by omega, ⟨s3, ?_⟩, .inl ⟨t3, ?_⟩⟩
    · generalize chN r L O = C at *
      generalize acc.map PyData.int = A at *
      exact sWhile_stop (by simp only [wcP, mkFn, sCons, sSet, sPar, sUnp, sIf, sRet, sRetN, sDrop, sNil, sBrk, sCnt, bndS, bnd, rt, opt, fVar, fVal, fBin, fUn, rd1, rd2, Rv.rd, Sl.rd, fD, fzM, Rv.fz, fCons, fNil, dCons, dNil, aCons, aNil, aBoxN, aBox, fCall, resolve, boxes, bxpos, wb, fNm, rdAll, fTup, fLst, hAdd, hSub, hInt2, hMulL, hLt, hLe, hGt, hGe, hNeg, hAbs, hLen, hInt1, hMax2, hMin2, hIx, fSl, oNone, oSome, hSl, fB, toB, fAnd, fOr, fNot, fAndV, fOrV, fNotV, fChain, kName, kTup, kCons, kNil, slOk, sStore, fMt, mtGo, hApp, hFdiv, hMod, hDivmod, outs, List.length_cons, List.length_nil, List.getElem?_cons_zero, List.getElem?_cons_succ, List.getElem?_nil, List.set_cons_zero, List.set_cons_succ, List.replicate_succ, List.replicate_zero, List.cons_append, List.nil_append, Option.bind_some, Option.map_some, cond_true, cond_false, ite_true, ite_false, Nat.reduceAdd, Nat.reduceSub, Nat.reduceEqDiff, Nat.reduceLeDiff, if_true, if_false, reduceIte, atI_n0, atI_n1, atI_n2, atI_n3, ixN_10, ixN_20, ixN_21, hEq_int, hNe_int, Bool.not_true, decide_true, decide_false, hTuple, sTryK, sRaise, Bool.false_eq_true, Bool.not_false, sz0, sz1, sz2, sz3, sz4, sz5, sz6, sz7, sz8, d1])
    · generalize chN r L O = C at *
      generalize acc.map PyData.int = A at *
      exact sWhile_stop (by simp only [wcL, mkFn, sCons, sSet, sPar, sUnp, sIf, sRet, sRetN, sDrop, sNil, sBrk, sCnt, bndS, bnd, rt, opt, fVar, fVal, fBin, fUn, rd1, rd2, Rv.rd, Sl.rd, fD, fzM, Rv.fz, fCons, fNil, dCons, dNil, aCons, aNil, aBoxN, aBox, fCall, resolve, boxes, bxpos, wb, fNm, rdAll, fTup, fLst, hAdd, hSub, hInt2, hMulL, hLt, hLe, hGt, hGe, hNeg, hAbs, hLen, hInt1, hMax2, hMin2, hIx, fSl, oNone, oSome, hSl, fB, toB, fAnd, fOr, fNot, fAndV, fOrV, fNotV, fChain, kName, kTup, kCons, kNil, slOk, sStore, fMt, mtGo, hApp, hFdiv, hMod, hDivmod, outs, List.length_cons, List.length_nil, List.getElem?_cons_zero, List.getElem?_cons_succ, List.getElem?_nil, List.set_cons_zero, List.set_cons_succ, List.replicate_succ, List.replicate_zero, List.cons_append, List.nil_append, Option.bind_some, Option.map_some, cond_true, cond_false, ite_true, ite_false, Nat.reduceAdd, Nat.reduceSub, Nat.reduceEqDiff, Nat.reduceLeDiff, if_true, if_false, reduceIte, atI_n0, atI_n1, atI_n2, atI_n3, ixN_10, ixN_20, ixN_21, hEq_int, hNe_int, Bool.not_true, decide_true, decide_false, hTuple, sTryK, sRaise, Bool.false_eq_true, Bool.not_false, sz0, sz1, sz2, sz3, sz4, sz5, sz6, sz7, sz8, d1])
  | m + 1, k, L, O, acc, s3, t3, K, hk, hl => by
    have d1 : decide ((((acc.map PyData.int).length : Nat) : Int) < ((M : Nat) : Int)) = true := decide_eq_true (by rw [List.length_map]; omega)
    rcases sg_all K (by omega) with ⟨ev, le⟩ | ⟨s, b, L', O', G⟩
    · refine ⟨acc, L, O, by omega, ⟨s3, ?_⟩, .inr ⟨[.dat (chN r L O), .dat (.int (M : Nat)), .dat (.list (acc.map PyData.int)), .dat .none], rfl, (fun n d q => by cases q), (fun n d q => by cases q), ?_⟩⟩
      · generalize chN r L O = C at *
        generalize acc.map PyData.int = A at *
        exact sWhile_stop (by simp only [wcP, mkFn, sCons, sSet, sPar, sUnp, sIf, sRet, sRetN, sDrop, sNil, sBrk, sCnt, bndS, bnd, rt, opt, fVar, fVal, fBin, fUn, rd1, rd2, Rv.rd, Sl.rd, fD, fzM, Rv.fz, fCons, fNil, dCons, dNil, aCons, aNil, aBoxN, aBox, fCall, resolve, boxes, bxpos, wb, fNm, rdAll, fTup, fLst, hAdd, hSub, hInt2, hMulL, hLt, hLe, hGt, hGe, hNeg, hAbs, hLen, hInt1, hMax2, hMin2, hIx, fSl, oNone, oSome, hSl, fB, toB, fAnd, fOr, fNot, fAndV, fOrV, fNotV, fChain, kName, kTup, kCons, kNil, slOk, sStore, fMt, mtGo, hApp, hFdiv, hMod, hDivmod, outs, List.length_cons, List.length_nil, List.getElem?_cons_zero, List.getElem?_cons_succ, List.getElem?_nil, List.set_cons_zero, List.set_cons_succ, List.replicate_succ, List.replicate_zero, List.cons_append, List.nil_append, Option.bind_some, Option.map_some, cond_true, cond_false, ite_true, ite_false, Nat.reduceAdd, Nat.reduceSub, Nat.reduceEqDiff, Nat.reduceLeDiff, if_true, if_false, reduceIte, atI_n0, atI_n1, atI_n2, atI_n3, ixN_10, ixN_20, ixN_21, hEq_int, hNe_int, Bool.not_true, decide_true, decide_false, hTuple, sTryK, sRaise, Bool.false_eq_true, Bool.not_false, sz0, sz1, sz2, sz3, sz4, sz5, sz6, sz7, sz8, d1, ev])
      · generalize chN r L O = C at *
        generalize acc.map PyData.int = A at *
        refine sWhile_ret (fs1 := [.dat C, .dat (.int (M : Nat)), .own 0 (.list A), t3]) (by simp only [wcL, mkFn, sCons, sSet, sPar, sUnp, sIf, sRet, sRetN, sDrop, sNil, sBrk, sCnt, bndS, bnd, rt, opt, fVar, fVal, fBin, fUn, rd1, rd2, Rv.rd, Sl.rd, fD, fzM, Rv.fz, fCons, fNil, dCons, dNil, aCons, aNil, aBoxN, aBox, fCall, resolve, boxes, bxpos, wb, fNm, rdAll, fTup, fLst, hAdd, hSub, hInt2, hMulL, hLt, hLe, hGt, hGe, hNeg, hAbs, hLen, hInt1, hMax2, hMin2, hIx, fSl, oNone, oSome, hSl, fB, toB, fAnd, fOr, fNot, fAndV, fOrV, fNotV, fChain, kName, kTup, kCons, kNil, slOk, sStore, fMt, mtGo, hApp, hFdiv, hMod, hDivmod, outs, List.length_cons, List.length_nil, List.getElem?_cons_zero, List.getElem?_cons_succ, List.getElem?_nil, List.set_cons_zero, List.set_cons_succ, List.replicate_succ, List.replicate_zero, List.cons_append, List.nil_append, Option.bind_some, Option.map_some, cond_true, cond_false, ite_true, ite_false, Nat.reduceAdd, Nat.reduceSub, Nat.reduceEqDiff, Nat.reduceLeDiff, if_true, if_false, reduceIte, atI_n0, atI_n1, atI_n2, atI_n3, ixN_10, ixN_20, ixN_21, hEq_int, hNe_int, Bool.not_true, decide_true, decide_false, hTuple, sTryK, sRaise, Bool.false_eq_true, Bool.not_false, sz0, sz1, sz2, sz3, sz4, sz5, sz6, sz7, sz8, d1]) ?_
        simp only [wbL, mkFn, sCons, sSet, sPar, sUnp, sIf, sRet, sRetN, sDrop, sNil, sBrk, sCnt, bndS, bnd, rt, opt, fVar, fVal, fBin, fUn, rd1, rd2, Rv.rd, Sl.rd, fD, fzM, Rv.fz, fCons, fNil, dCons, dNil, aCons, aNil, aBoxN, aBox, fCall, resolve, boxes, bxpos, wb, fNm, rdAll, fTup, fLst, hAdd, hSub, hInt2, hMulL, hLt, hLe, hGt, hGe, hNeg, hAbs, hLen, hInt1, hMax2, hMin2, hIx, fSl, oNone, oSome, hSl, fB, toB, fAnd, fOr, fNot, fAndV, fOrV, fNotV, fChain, kName, kTup, kCons, kNil, slOk, sStore, fMt, mtGo, hApp, hFdiv, hMod, hDivmod, outs, List.length_cons, List.length_nil, List.getElem?_cons_zero, List.getElem?_cons_succ, List.getElem?_nil, List.set_cons_zero, List.set_cons_succ, List.replicate_succ, List.replicate_zero, List.cons_append, List.nil_append, Option.bind_some, Option.map_some, cond_true, cond_false, ite_true, ite_false, Nat.reduceAdd, Nat.reduceSub, Nat.reduceEqDiff, Nat.reduceLeDiff, if_true, if_false, reduceIte, atI_n0, atI_n1, atI_n2, atI_n3, ixN_10, ixN_20, ixN_21, hEq_int, hNe_int, Bool.not_true, decide_true, decide_false, hTuple, sTryK, sRaise, Bool.false_eq_true, Bool.not_false, sz0, sz1, sz2, sz3, sz4, sz5, sz6, sz7, sz8, le, hIs, isNone, Bool.false_bne]
    · have hz : ((acc.map PyData.int).length < sizeLine) = True := eq_true (szl ((acc.map PyData.int).length + 1) (by rw [List.length_map]; omega))
      have em : (acc ++ [s]).map PyData.int = acc.map PyData.int ++ [.int s] := by rw [List.map_append]; rfl
      obtain ⟨l, L2, O2, h1, ⟨s3', h2⟩, h3⟩ := run62 M hM m (k + 1) L' O' (acc ++ [s]) (.dat (.int s)) (.dat (.tuple [.int s, chN r L' O'])) G.K' (by rw [G.hl]; omega) (by rw [List.length_append, List.length_singleton]; omega)
      have ev := G.ev
      have st := G.st
      have le := G.le
      rw [em] at h2 h3
      clear G
      generalize chN r L O = C at *
      generalize chN r L' O' = C' at *
      generalize acc.map PyData.int = A at *
      refine ⟨l, L2, O2, h1, ⟨s3', ?_⟩, ?_⟩
      · rw [sWhile_turn (fs1 := [.dat C, .dat (.int (M : Nat)), .own 0 (.list A), s3]) (fs2 := [.dat C', .dat (.int (M : Nat)), .own 0 (.list (A ++ [.int s])), .dat (.int s)]) (by simp only [wcP, mkFn, sCons, sSet, sPar, sUnp, sIf, sRet, sRetN, sDrop, sNil, sBrk, sCnt, bndS, bnd, rt, opt, fVar, fVal, fBin, fUn, rd1, rd2, Rv.rd, Sl.rd, fD, fzM, Rv.fz, fCons, fNil, dCons, dNil, aCons, aNil, aBoxN, aBox, fCall, resolve, boxes, bxpos, wb, fNm, rdAll, fTup, fLst, hAdd, hSub, hInt2, hMulL, hLt, hLe, hGt, hGe, hNeg, hAbs, hLen, hInt1, hMax2, hMin2, hIx, fSl, oNone, oSome, hSl, fB, toB, fAnd, fOr, fNot, fAndV, fOrV, fNotV, fChain, kName, kTup, kCons, kNil, slOk, sStore, fMt, mtGo, hApp, hFdiv, hMod, hDivmod, outs, List.length_cons, List.length_nil, List.getElem?_cons_zero, List.getElem?_cons_succ, List.getElem?_nil, List.set_cons_zero, List.set_cons_succ, List.replicate_succ, List.replicate_zero, List.cons_append, List.nil_append, Option.bind_some, Option.map_some, cond_true, cond_false, ite_true, ite_false, Nat.reduceAdd, Nat.reduceSub, Nat.reduceEqDiff, Nat.reduceLeDiff, if_true, if_false, reduceIte, atI_n0, atI_n1, atI_n2, atI_n3, ixN_10, ixN_20, ixN_21, hEq_int, hNe_int, Bool.not_true, decide_true, decide_false, hTuple, sTryK, sRaise, Bool.false_eq_true, Bool.not_false, sz0, sz1, sz2, sz3, sz4, sz5, sz6, sz7, sz8, d1, ev]) (by simp only [wbP, mkFn, sCons, sSet, sPar, sUnp, sIf, sRet, sRetN, sDrop, sNil, sBrk, sCnt, bndS, bnd, rt, opt, fVar, fVal, fBin, fUn, rd1, rd2, Rv.rd, Sl.rd, fD, fzM, Rv.fz, fCons, fNil, dCons, dNil, aCons, aNil, aBoxN, aBox, fCall, resolve, boxes, bxpos, wb, fNm, rdAll, fTup, fLst, hAdd, hSub, hInt2, hMulL, hLt, hLe, hGt, hGe, hNeg, hAbs, hLen, hInt1, hMax2, hMin2, hIx, fSl, oNone, oSome, hSl, fB, toB, fAnd, fOr, fNot, fAndV, fOrV, fNotV, fChain, kName, kTup, kCons, kNil, slOk, sStore, fMt, mtGo, hApp, hFdiv, hMod, hDivmod, outs, List.length_cons, List.length_nil, List.getElem?_cons_zero, List.getElem?_cons_succ, List.getElem?_nil, List.set_cons_zero, List.set_cons_succ, List.replicate_succ, List.replicate_zero, List.cons_append, List.nil_append, Option.bind_some, Option.map_some, cond_true, cond_false, ite_true, ite_false, Nat.reduceAdd, Nat.reduceSub, Nat.reduceEqDiff, Nat.reduceLeDiff, if_true, if_false, reduceIte, atI_n0, atI_n1, atI_n2, atI_n3, ixN_10, ixN_20, ixN_21, hEq_int, hNe_int, Bool.not_true, decide_true, decide_false, hTuple, sTryK, sRaise, Bool.false_eq_true, Bool.not_false, sz0, sz1, sz2, sz3, sz4, sz5, sz6, sz7, sz8, st, hz])]
        exact h2
      · have turn : sWhile wcL wbL [.dat C, .dat (.int (M : Nat)), .own 0 (.list A), t3] = sWhile wcL wbL [.dat C', .dat (.int (M : Nat)), .own 0 (.list (A ++ [.int s])), .dat (.tuple [.int s, C'])] :=
          sWhile_turn (fs1 := [.dat C, .dat (.int (M : Nat)), .own 0 (.list A), t3]) (by simp only [wcL, mkFn, sCons, sSet, sPar, sUnp, sIf, sRet, sRetN, sDrop, sNil, sBrk, sCnt, bndS, bnd, rt, opt, fVar, fVal, fBin, fUn, rd1, rd2, Rv.rd, Sl.rd, fD, fzM, Rv.fz, fCons, fNil, dCons, dNil, aCons, aNil, aBoxN, aBox, fCall, resolve, boxes, bxpos, wb, fNm, rdAll, fTup, fLst, hAdd, hSub, hInt2, hMulL, hLt, hLe, hGt, hGe, hNeg, hAbs, hLen, hInt1, hMax2, hMin2, hIx, fSl, oNone, oSome, hSl, fB, toB, fAnd, fOr, fNot, fAndV, fOrV, fNotV, fChain, kName, kTup, kCons, kNil, slOk, sStore, fMt, mtGo, hApp, hFdiv, hMod, hDivmod, outs, List.length_cons, List.length_nil, List.getElem?_cons_zero, List.getElem?_cons_succ, List.getElem?_nil, List.set_cons_zero, List.set_cons_succ, List.replicate_succ, List.replicate_zero, List.cons_append, List.nil_append, Option.bind_some, Option.map_some, cond_true, cond_false, ite_true, ite_false, Nat.reduceAdd, Nat.reduceSub, Nat.reduceEqDiff, Nat.reduceLeDiff, if_true, if_false, reduceIte, atI_n0, atI_n1, atI_n2, atI_n3, ixN_10, ixN_20, ixN_21, hEq_int, hNe_int, Bool.not_true, decide_true, decide_false, hTuple, sTryK, sRaise, Bool.false_eq_true, Bool.not_false, sz0, sz1, sz2, sz3, sz4, sz5, sz6, sz7, sz8, d1]) (by simp only [wbL, mkFn, sCons, sSet, sPar, sUnp, sIf, sRet, sRetN, sDrop, sNil, sBrk, sCnt, bndS, bnd, rt, opt, fVar, fVal, fBin, fUn, rd1, rd2, Rv.rd, Sl.rd, fD, fzM, Rv.fz, fCons, fNil, dCons, dNil, aCons, aNil, aBoxN, aBox, fCall, resolve, boxes, bxpos, wb, fNm, rdAll, fTup, fLst, hAdd, hSub, hInt2, hMulL, hLt, hLe, hGt, hGe, hNeg, hAbs, hLen, hInt1, hMax2, hMin2, hIx, fSl, oNone, oSome, hSl, fB, toB, fAnd, fOr, fNot, fAndV, fOrV, fNotV, fChain, kName, kTup, kCons, kNil, slOk, sStore, fMt, mtGo, hApp, hFdiv, hMod, hDivmod, outs, List.length_cons, List.length_nil, List.getElem?_cons_zero, List.getElem?_cons_succ, List.getElem?_nil, List.set_cons_zero, List.set_cons_succ, List.replicate_succ, List.replicate_zero, List.cons_append, List.nil_append, Option.bind_some, Option.map_some, cond_true, cond_false, ite_true, ite_false, Nat.reduceAdd, Nat.reduceSub, Nat.reduceEqDiff, Nat.reduceLeDiff, if_true, if_false, reduceIte, atI_n0, atI_n1, atI_n2, atI_n3, ixN_10, ixN_20, ixN_21, hEq_int, hNe_int, Bool.not_true, decide_true, decide_false, hTuple, sTryK, sRaise, Bool.false_eq_true, Bool.not_false, sz0, sz1, sz2, sz3, sz4, sz5, sz6, sz7, sz8, le, hz, hIs, isNone, Bool.false_bne])
        rw [turn]
        exact h3
theorem sConsN_nx {g h : SM} {fs fs1 : Fs} (e : g fs = some (.nx, fs1)) : sConsN g h fs = h fs1 := by unfold sConsN; rw [e]
theorem mkFnN_ret {k N : Nat} {g : SM} {as : List Sl} {fs : Fs} {d : D} (h1 : as.length = k) (h : g (as ++ List.replicate (N - k) .no) = some (.ret false d, fs)) : mkFnN k N g as = some (.inr (false, d), outs k 0 fs) := by unfold mkFnN; rw [if_pos h1, h]
theorem outs2 {fs : Fs} (h : fs.length = 4) (h0 : ∀ n d, fs[0]? ≠ some (.own n d)) (h1 : ∀ n d, fs[1]? ≠ some (.own n d)) : outs 2 0 fs = [.no, .no] := by
  match fs, h with
  | [a, b, c, d], _ =>
    have ha : ∀ n d, a ≠ .own n d := fun n d e => h0 n d (by rw [e]; rfl)
    have hb : ∀ n d, b ≠ .own n d := fun n d e => h1 n d (by rw [e]; rfl)
    cases a with
    | own n d => exact absurd rfl (ha n d)
    | no => cases b with
      | own n d => exact absurd rfl (hb n d)
      | no => rfl
      | dat d => rfl
    | dat d => cases b with
      | own n d => exact absurd rfl (hb n d)
      | no => rfl
      | dat d => rfl
theorem told62 {r : Int} {L : List Pr} {O : List Int} (K : Okp r 10 L O) (hL : L.length ≤ 20) (M : Nat) (hM : M ≤ 200) : ∃ (l : List Int) (L' : List Pr) (O' : List Int), l.length ≤ 200 ∧
    d_p_steps_doneN [.dat (chN r L O), .dat (.int (M : Nat))] = some (.inr (false, .tuple [.list (l.map PyData.int), chN r L' O']), [.no, .no]) ∧
    d_due [.dat (chN r L O), .dat (.int (M : Nat))] = some (.inr (false, .tuple [.list (l.map PyData.int), chN r L' O']), [.no, .no]) := by
  obtain ⟨l, L', O', h1, ⟨s3, h2⟩, h3⟩ := run62 (r := r) M hM M 10 L O [] .no .no K (by omega) (by rw [List.length_nil]; omega)
  rw [List.map_nil] at h2 h3
  have hz : ((l.map PyData.int).length < sizeLine) = True := eq_true (szl ((l.map PyData.int).length + 1) (by rw [List.length_map]; omega))
  have ec := count_is (m := (M : Nat)) (lo := 0) (hi := 200) (by omega) (by omega)
  refine ⟨l, L', O', h1, ?_, ?_⟩
  · unfold d_p_steps_doneN
    generalize chN r L O = C at *
    generalize chN r L' O' = C' at *
    generalize l.map PyData.int = A at *
    refine mkFnN_ret (fs := [.dat C', .dat (.int (M : Nat)), .no, s3]) rfl ?_
    show sConsN _ _ [.dat C, .dat (.int (M : Nat)), .no, .no] = _
    rw [sConsN_nx (fs1 := [.dat C, .dat (.int (M : Nat)), .no, .no]) (by simp only [mkFn, sCons, sSet, sPar, sUnp, sIf, sRet, sRetN, sDrop, sNil, sBrk, sCnt, bndS, bnd, rt, opt, fVar, fVal, fBin, fUn, rd1, rd2, Rv.rd, Sl.rd, fD, fzM, Rv.fz, fCons, fNil, dCons, dNil, aCons, aNil, aBoxN, aBox, fCall, resolve, boxes, bxpos, wb, fNm, rdAll, fTup, fLst, hAdd, hSub, hInt2, hMulL, hLt, hLe, hGt, hGe, hNeg, hAbs, hLen, hInt1, hMax2, hMin2, hIx, fSl, oNone, oSome, hSl, fB, toB, fAnd, fOr, fNot, fAndV, fOrV, fNotV, fChain, kName, kTup, kCons, kNil, slOk, sStore, fMt, mtGo, hApp, hFdiv, hMod, hDivmod, outs, List.length_cons, List.length_nil, List.getElem?_cons_zero, List.getElem?_cons_succ, List.getElem?_nil, List.set_cons_zero, List.set_cons_succ, List.replicate_succ, List.replicate_zero, List.cons_append, List.nil_append, Option.bind_some, Option.map_some, cond_true, cond_false, ite_true, ite_false, Nat.reduceAdd, Nat.reduceSub, Nat.reduceEqDiff, Nat.reduceLeDiff, if_true, if_false, reduceIte, atI_n0, atI_n1, atI_n2, atI_n3, ixN_10, ixN_20, ixN_21, hEq_int, hNe_int, Bool.not_true, decide_true, decide_false, hTuple, sTryK, sRaise, Bool.false_eq_true, Bool.not_false, sz0, sz1, sz2, sz3, sz4, sz5, sz6, sz7, sz8, ec])]
    rw [sConsN_nx (fs1 := [.dat C, .dat (.int (M : Nat)), .own 0 (.list []), .no]) (by simp only [mkFn, sCons, sSet, sPar, sUnp, sIf, sRet, sRetN, sDrop, sNil, sBrk, sCnt, bndS, bnd, rt, opt, fVar, fVal, fBin, fUn, rd1, rd2, Rv.rd, Sl.rd, fD, fzM, Rv.fz, fCons, fNil, dCons, dNil, aCons, aNil, aBoxN, aBox, fCall, resolve, boxes, bxpos, wb, fNm, rdAll, fTup, fLst, hAdd, hSub, hInt2, hMulL, hLt, hLe, hGt, hGe, hNeg, hAbs, hLen, hInt1, hMax2, hMin2, hIx, fSl, oNone, oSome, hSl, fB, toB, fAnd, fOr, fNot, fAndV, fOrV, fNotV, fChain, kName, kTup, kCons, kNil, slOk, sStore, fMt, mtGo, hApp, hFdiv, hMod, hDivmod, outs, List.length_cons, List.length_nil, List.getElem?_cons_zero, List.getElem?_cons_succ, List.getElem?_nil, List.set_cons_zero, List.set_cons_succ, List.replicate_succ, List.replicate_zero, List.cons_append, List.nil_append, Option.bind_some, Option.map_some, cond_true, cond_false, ite_true, ite_false, Nat.reduceAdd, Nat.reduceSub, Nat.reduceEqDiff, Nat.reduceLeDiff, if_true, if_false, reduceIte, atI_n0, atI_n1, atI_n2, atI_n3, ixN_10, ixN_20, ixN_21, hEq_int, hNe_int, Bool.not_true, decide_true, decide_false, hTuple, sTryK, sRaise, Bool.false_eq_true, Bool.not_false, sz0, sz1, sz2, sz3, sz4, sz5, sz6, sz7, sz8])]
    rw [sConsN_nx (fs1 := [.dat C', .dat (.int (M : Nat)), .own 0 (.list A), s3]) h2]
    show (if A.length < sizeLine then _ else _) = _
    rw [if_pos (of_eq_true hz)]
    rfl
  · unfold d_due
    rcases h3 with ⟨t3, h3⟩ | ⟨fs', hl, z0, z1, h3⟩
    · generalize chN r L O = C at *
      generalize chN r L' O' = C' at *
      generalize l.map PyData.int = A at *
      refine mkFn_ret (fs := [.dat C', .dat (.int (M : Nat)), .dat (.list A), t3]) rfl ?_
      show sCons _ _ [.dat C, .dat (.int (M : Nat)), .no, .no] = _
      rw [sCons_nx (fs1 := [.dat C, .dat (.int (M : Nat)), .own 0 (.list []), .no]) (by simp only [mkFn, sCons, sSet, sPar, sUnp, sIf, sRet, sRetN, sDrop, sNil, sBrk, sCnt, bndS, bnd, rt, opt, fVar, fVal, fBin, fUn, rd1, rd2, Rv.rd, Sl.rd, fD, fzM, Rv.fz, fCons, fNil, dCons, dNil, aCons, aNil, aBoxN, aBox, fCall, resolve, boxes, bxpos, wb, fNm, rdAll, fTup, fLst, hAdd, hSub, hInt2, hMulL, hLt, hLe, hGt, hGe, hNeg, hAbs, hLen, hInt1, hMax2, hMin2, hIx, fSl, oNone, oSome, hSl, fB, toB, fAnd, fOr, fNot, fAndV, fOrV, fNotV, fChain, kName, kTup, kCons, kNil, slOk, sStore, fMt, mtGo, hApp, hFdiv, hMod, hDivmod, outs, List.length_cons, List.length_nil, List.getElem?_cons_zero, List.getElem?_cons_succ, List.getElem?_nil, List.set_cons_zero, List.set_cons_succ, List.replicate_succ, List.replicate_zero, List.cons_append, List.nil_append, Option.bind_some, Option.map_some, cond_true, cond_false, ite_true, ite_false, Nat.reduceAdd, Nat.reduceSub, Nat.reduceEqDiff, Nat.reduceLeDiff, if_true, if_false, reduceIte, atI_n0, atI_n1, atI_n2, atI_n3, ixN_10, ixN_20, ixN_21, hEq_int, hNe_int, Bool.not_true, decide_true, decide_false, hTuple, sTryK, sRaise, Bool.false_eq_true, Bool.not_false, sz0, sz1, sz2, sz3, sz4, sz5, sz6, sz7, sz8])]
      rw [sCons_nx (fs1 := [.dat C', .dat (.int (M : Nat)), .own 0 (.list A), t3]) h3]
      simp only [mkFn, sCons, sSet, sPar, sUnp, sIf, sRet, sRetN, sDrop, sNil, sBrk, sCnt, bndS, bnd, rt, opt, fVar, fVal, fBin, fUn, rd1, rd2, Rv.rd, Sl.rd, fD, fzM, Rv.fz, fCons, fNil, dCons, dNil, aCons, aNil, aBoxN, aBox, fCall, resolve, boxes, bxpos, wb, fNm, rdAll, fTup, fLst, hAdd, hSub, hInt2, hMulL, hLt, hLe, hGt, hGe, hNeg, hAbs, hLen, hInt1, hMax2, hMin2, hIx, fSl, oNone, oSome, hSl, fB, toB, fAnd, fOr, fNot, fAndV, fOrV, fNotV, fChain, kName, kTup, kCons, kNil, slOk, sStore, fMt, mtGo, hApp, hFdiv, hMod, hDivmod, outs, List.length_cons, List.length_nil, List.getElem?_cons_zero, List.getElem?_cons_succ, List.getElem?_nil, List.set_cons_zero, List.set_cons_succ, List.replicate_succ, List.replicate_zero, List.cons_append, List.nil_append, Option.bind_some, Option.map_some, cond_true, cond_false, ite_true, ite_false, Nat.reduceAdd, Nat.reduceSub, Nat.reduceEqDiff, Nat.reduceLeDiff, if_true, if_false, reduceIte, atI_n0, atI_n1, atI_n2, atI_n3, ixN_10, ixN_20, ixN_21, hEq_int, hNe_int, Bool.not_true, decide_true, decide_false, hTuple, sTryK, sRaise, Bool.false_eq_true, Bool.not_false, sz0, sz1, sz2, sz3, sz4, sz5, sz6, sz7, sz8]
    · generalize chN r L O = C at *
      generalize chN r L' O' = C' at *
      generalize l.map PyData.int = A at *
      rw [← outs2 hl z0 z1]
      refine mkFn_ret rfl ?_
      show sCons _ _ [.dat C, .dat (.int (M : Nat)), .no, .no] = _
      rw [sCons_nx (fs1 := [.dat C, .dat (.int (M : Nat)), .own 0 (.list []), .no]) (by simp only [mkFn, sCons, sSet, sPar, sUnp, sIf, sRet, sRetN, sDrop, sNil, sBrk, sCnt, bndS, bnd, rt, opt, fVar, fVal, fBin, fUn, rd1, rd2, Rv.rd, Sl.rd, fD, fzM, Rv.fz, fCons, fNil, dCons, dNil, aCons, aNil, aBoxN, aBox, fCall, resolve, boxes, bxpos, wb, fNm, rdAll, fTup, fLst, hAdd, hSub, hInt2, hMulL, hLt, hLe, hGt, hGe, hNeg, hAbs, hLen, hInt1, hMax2, hMin2, hIx, fSl, oNone, oSome, hSl, fB, toB, fAnd, fOr, fNot, fAndV, fOrV, fNotV, fChain, kName, kTup, kCons, kNil, slOk, sStore, fMt, mtGo, hApp, hFdiv, hMod, hDivmod, outs, List.length_cons, List.length_nil, List.getElem?_cons_zero, List.getElem?_cons_succ, List.getElem?_nil, List.set_cons_zero, List.set_cons_succ, List.replicate_succ, List.replicate_zero, List.cons_append, List.nil_append, Option.bind_some, Option.map_some, cond_true, cond_false, ite_true, ite_false, Nat.reduceAdd, Nat.reduceSub, Nat.reduceEqDiff, Nat.reduceLeDiff, if_true, if_false, reduceIte, atI_n0, atI_n1, atI_n2, atI_n3, ixN_10, ixN_20, ixN_21, hEq_int, hNe_int, Bool.not_true, decide_true, decide_false, hTuple, sTryK, sRaise, Bool.false_eq_true, Bool.not_false, sz0, sz1, sz2, sz3, sz4, sz5, sz6, sz7, sz8])]
      exact sCons_ret h3
/-! ### the law -/
theorem steps_not (C x : D) (h : (∃ i, x = .int i ∧ (i < 0 ∨ 200 < i)) ∨ hIsi "int" x = some (.val (.bool false)) ∨ (hIsi "int" x = some (.val (.bool true)) ∧ hIsi "bool" x = some (.val (.bool true)))) :
    d_p_steps_done [.dat C, .dat x] = some (.inl "NoNumber", [.no, .no]) := by
  have ec := count_not (lo := 0) (hi := 200) x h
  unfold d_p_steps_done
  refine mkFn_ex (fs := [.dat C, .dat x, .no, .no]) rfl ?_
  refine sCons_ex ?_
  simp only [mkFn, sCons, sSet, sPar, sUnp, sIf, sRet, sRetN, sDrop, sNil, sBrk, sCnt, bndS, bnd, rt, opt, fVar, fVal, fBin, fUn, rd1, rd2, Rv.rd, Sl.rd, fD, fzM, Rv.fz, fCons, fNil, dCons, dNil, aCons, aNil, aBoxN, aBox, fCall, resolve, boxes, bxpos, wb, fNm, rdAll, fTup, fLst, hAdd, hSub, hInt2, hMulL, hLt, hLe, hGt, hGe, hNeg, hAbs, hLen, hInt1, hMax2, hMin2, hIx, fSl, oNone, oSome, hSl, fB, toB, fAnd, fOr, fNot, fAndV, fOrV, fNotV, fChain, kName, kTup, kCons, kNil, slOk, sStore, fMt, mtGo, hApp, hFdiv, hMod, hDivmod, outs, List.length_cons, List.length_nil, List.getElem?_cons_zero, List.getElem?_cons_succ, List.getElem?_nil, List.set_cons_zero, List.set_cons_succ, List.replicate_succ, List.replicate_zero, List.cons_append, List.nil_append, Option.bind_some, Option.map_some, cond_true, cond_false, ite_true, ite_false, Nat.reduceAdd, Nat.reduceSub, Nat.reduceEqDiff, Nat.reduceLeDiff, if_true, if_false, reduceIte, atI_n0, atI_n1, atI_n2, atI_n3, ixN_10, ixN_20, ixN_21, hEq_int, hNe_int, Bool.not_true, decide_true, decide_false, hTuple, sTryK, sRaise, Bool.false_eq_true, Bool.not_false, sz0, sz1, sz2, sz3, sz4, sz5, sz6, sz7, sz8, ec]
theorem kd_number : kd_kind "NoNumber" = some (Str.ofString "number") := by decide +kernel
theorem said_number (C x : D) (h : (∃ i, x = .int i ∧ (i < 0 ∨ 200 < i)) ∨ hIsi "int" x = some (.val (.bool false)) ∨ (hIsi "int" x = some (.val (.bool true)) ∧ hIsi "bool" x = some (.val (.bool true)))) :
    d_said [.dat C, .dat x] = some (.inr (false, .str "number"), [.no, .no]) := by
  have e := steps_not C x h
  simp only [d_said, mkFn, sCons, sSet, sPar, sUnp, sIf, sRet, sRetN, sDrop, sNil, sBrk, sCnt, bndS, bnd, rt, opt, fVar, fVal, fBin, fUn, rd1, rd2, Rv.rd, Sl.rd, fD, fzM, Rv.fz, fCons, fNil, dCons, dNil, aCons, aNil, aBoxN, aBox, fCall, resolve, boxes, bxpos, wb, fNm, rdAll, fTup, fLst, hAdd, hSub, hInt2, hMulL, hLt, hLe, hGt, hGe, hNeg, hAbs, hLen, hInt1, hMax2, hMin2, hIx, fSl, oNone, oSome, hSl, fB, toB, fAnd, fOr, fNot, fAndV, fOrV, fNotV, fChain, kName, kTup, kCons, kNil, slOk, sStore, fMt, mtGo, hApp, hFdiv, hMod, hDivmod, outs, List.length_cons, List.length_nil, List.getElem?_cons_zero, List.getElem?_cons_succ, List.getElem?_nil, List.set_cons_zero, List.set_cons_succ, List.replicate_succ, List.replicate_zero, List.cons_append, List.nil_append, Option.bind_some, Option.map_some, cond_true, cond_false, ite_true, ite_false, Nat.reduceAdd, Nat.reduceSub, Nat.reduceEqDiff, Nat.reduceLeDiff, if_true, if_false, reduceIte, atI_n0, atI_n1, atI_n2, atI_n3, ixN_10, ixN_20, ixN_21, hEq_int, hNe_int, Bool.not_true, decide_true, decide_false, hTuple, sTryK, sRaise, Bool.false_eq_true, Bool.not_false, sz0, sz1, sz2, sz3, sz4, sz5, sz6, sz7, sz8, e, kd_number]
theorem bool_bad (b : Bool) : hIsi "int" (.bool b) = some (.val (.bool true)) ∧ hIsi "bool" (.bool b) = some (.val (.bool true)) := by
  have k1 : kitB "bool" "int" = some true := by decide +kernel
  have k2 : kitB "bool" "bool" = some true := by decide +kernel
  constructor
  · show (bif true then (kitB "bool" "int").map _ else none) = _
    rw [k1]; rfl
  · show (bif true then (kitB "bool" "bool").map _ else none) = _
    rw [k2]; rfl
theorem bad_num8 (d : Nat) (h : d < 8) : ∃ x, ([PyData.int (-1), .int 201, .bool true, .none, .str "3", .tuple [.int 3], .int 1000000000000000000000000000000000000000, .dict []])[d]? = some x ∧
    ((∃ i, x = .int i ∧ (i < 0 ∨ 200 < i)) ∨ hIsi "int" x = some (.val (.bool false)) ∨ (hIsi "int" x = some (.val (.bool true)) ∧ hIsi "bool" x = some (.val (.bool true)))) := by
  have k3 : kitB "NoneType" "int" = some false := by decide +kernel
  have k4 : kitB "str" "int" = some false := by decide +kernel
  have k5 : kitB "tuple" "int" = some false := by decide +kernel
  have k6 : kitB "dict" "int" = some false := by decide +kernel
  match d, h with
  | 0, _ => exact ⟨_, rfl, .inl ⟨-1, rfl, by omega⟩⟩
  | 1, _ => exact ⟨_, rfl, .inl ⟨201, rfl, by omega⟩⟩
  | 2, _ => exact ⟨_, rfl, .inr (.inr (bool_bad true))⟩
  | 3, _ => exact ⟨_, rfl, .inr (.inl (by show (bif true then (kitB "NoneType" "int").map _ else none) = _; rw [k3]; rfl))⟩
  | 4, _ => exact ⟨_, rfl, .inr (.inl (by show (bif true then (kitB "str" "int").map _ else none) = _; rw [k4]; rfl))⟩
  | 5, _ => exact ⟨_, rfl, .inr (.inl (by show (bif true then (kitB "tuple" "int").map _ else none) = _; rw [k5]; rfl))⟩
  | 6, _ => exact ⟨_, rfl, .inl ⟨1000000000000000000000000000000000000000, rfl, by decide⟩⟩
  | 7, _ => exact ⟨_, rfl, .inr (.inl (by show (bif true then (kitB "dict" "int").map _ else none) = _; rw [k6]; rfl))⟩
theorem noB_told (l : List Int) (r : Int) (L : List Pr) (O : List Int) : noB (.tuple [.list (l.map PyData.int), chN r L O]) = true ∧ dpth 4 (.tuple [.list (l.map PyData.int), chN r L O]) = true := by
  obtain ⟨h1, h2⟩ := noB_chN r L O
  have h3 := noBs_ints l
  have h4 := dpths_ints 2 l
  generalize chN r L O = C at *
  generalize l.map PyData.int = A at *
  constructor
  · simp only [noB, noBs, h1, h3, Bool.and_self]
  · simp only [dpth, dpths, h2, h4, Bool.and_self]
/-- one turn: told, put on to -/
noncomputable abbrev pkB : SM := sPoke 7 3 4 d_p_steps_doneN (fOr (fNot (fB (fUn (hIsi "tuple") (fVar 7)))) (fOr (fB (fBin hNe (fVar 7) (fVar 5))) (fNot (fB (fUn (hIsi "list") (fBin hIx (fVar 7) (fVal (.int 0)))))))) (sRet (fVal (.bool false)))
theorem poke_turn {sc C C' : D} {x n : Int} {M : Int} {A : List D} {s6 s7 s8 : Sl} (h6 : intSl s6 = true) (h7 : intSl s7 = true) (h8 : intSl s8 = true) (e : d_p_steps_doneN [.dat C, .dat (.int M)] = some (.inr (false, .tuple [.list A, C']), [.no, .no]))
    (hne : hNe (.tuple [.list A, C']) (.tuple [.list A, C']) = some (.val (.bool false))) :
    pkB [.dat sc, .dat (.int x), .own 0 (.list [.int n]), .dat C, .dat (.int M), .dat (.tuple [.list A, C']), s6, s7, s8] = some (.nx, [.dat sc, .dat (.int x), .own 0 (.list [.int n]), .dat C, .dat (.int M), .dat (.tuple [.list A, C']), s6, .no, s8]) := by
  have i1 := isi_tup [.list A, C']
  have i2 := isi_list A
  have hc : (fOr (fNot (fB (fUn (hIsi "tuple") (fVar 7)))) (fOr (fB (fBin hNe (fVar 7) (fVar 5))) (fNot (fB (fUn (hIsi "list") (fBin hIx (fVar 7) (fVal (.int 0)))))))) [.dat sc, .dat (.int x), .own 0 (.list [.int n]), .dat C, .dat (.int M), .dat (.tuple [.list A, C']), s6, .dat (.tuple [.list A, C']), s8] =
      some (.inr false, [.dat sc, .dat (.int x), .own 0 (.list [.int n]), .dat C, .dat (.int M), .dat (.tuple [.list A, C']), s6, .dat (.tuple [.list A, C']), s8]) := by
    simp only [mkFn, sCons, sSet, sPar, sUnp, sIf, sRet, sRetN, sDrop, sNil, sBrk, sCnt, bndS, bnd, rt, opt, fVar, fVal, fBin, fUn, rd1, rd2, Rv.rd, Sl.rd, fD, fzM, Rv.fz, fCons, fNil, dCons, dNil, aCons, aNil, aBoxN, aBox, fCall, resolve, boxes, bxpos, wb, fNm, rdAll, fTup, fLst, hAdd, hSub, hInt2, hMulL, hLt, hLe, hGt, hGe, hNeg, hAbs, hLen, hInt1, hMax2, hMin2, hIx, fSl, oNone, oSome, hSl, fB, toB, fAnd, fOr, fNot, fAndV, fOrV, fNotV, fChain, kName, kTup, kCons, kNil, slOk, sStore, fMt, mtGo, hApp, hFdiv, hMod, hDivmod, outs, List.length_cons, List.length_nil, List.getElem?_cons_zero, List.getElem?_cons_succ, List.getElem?_nil, List.set_cons_zero, List.set_cons_succ, List.replicate_succ, List.replicate_zero, List.cons_append, List.nil_append, Option.bind_some, Option.map_some, cond_true, cond_false, ite_true, ite_false, Nat.reduceAdd, Nat.reduceSub, Nat.reduceEqDiff, Nat.reduceLeDiff, if_true, if_false, reduceIte, atI_n0, atI_n1, atI_n2, atI_n3, ixN_10, ixN_20, ixN_21, hEq_int, hNe_int, Bool.not_true, decide_true, decide_false, hTuple, sTryK, sRaise, Bool.false_eq_true, Bool.not_false, sz0, sz1, sz2, sz3, sz4, sz5, sz6, sz7, sz8, i1, i2, hne]
  have hall : ([.dat sc, .dat (.int x), .own 0 (.list [.int n]), .dat C, .dat (.int M), .dat (.tuple [.list A, C']), s6, s7, s8] : Fs).all intSl = true := by
    simp only [List.all_cons, List.all_nil, h6, h7, h8, Bool.and_true]
    rfl
  unfold pkB sPoke
  generalize fOr (fNot (fB (fUn (hIsi "tuple") (fVar 7)))) (fOr (fB (fBin hNe (fVar 7) (fVar 5))) (fNot (fB (fUn (hIsi "list") (fBin hIx (fVar 7) (fVal (.int 0))))))) = c at hc ⊢
  simp only [List.getElem?_cons_succ, List.getElem?_cons_zero, e]
  show (match c [.dat sc, .dat (.int x), .own 0 (.list [.int n]), .dat C, .dat (.int M), .dat (.tuple [.list A, C']), s6, .dat (.tuple [.list A, C']), s8] with | some (.inr true, fs1) => _ | some (.inr false, _) => _ | _ => _) = _
  rw [hc]
  show (if _ ∧ _ then _ else _) = _
  rw [if_pos ⟨hall, by show 7 < 9; decide⟩]
  rfl
noncomputable abbrev most62 : SM := sCons (sSet 5 (fCall d_due (aCons (fVar 3) (aCons (fVar 4) aNil)))) (sFor (fiR1 (dCons (fVal (.int 2)) dNil)) (kName 6) pkB)
theorem most_turn {r : Int} {L : List Pr} {O : List Int} (K : Okp r 10 L O) (hL : L.length ≤ 20) (M : Nat) (hM : M ≤ 200) {sc : D} {x n : Int} {s5 s6 s7 s8 : Sl} (h7 : intSl s7 = true) (h8 : intSl s8 = true) :
    ∃ (s5' s6' : Sl), intSl s5' = true ∧ intSl s6' = true ∧ most62 [.dat sc, .dat (.int x), .own 0 (.list [.int n]), .dat (chN r L O), .dat (.int (M : Nat)), s5, s6, s7, s8] = some (.nx, [.dat sc, .dat (.int x), .own 0 (.list [.int n]), .dat (chN r L O), .dat (.int (M : Nat)), s5', s6', .no, s8]) := by
  obtain ⟨l, L', O', hl, e1, e2⟩ := told62 K hL M hM
  have hne := ne_refl (noB_told l r L' O').1 (noB_told l r L' O').2 (by decide)
  generalize chN r L O = C at *
  generalize chN r L' O' = C' at *
  generalize l.map PyData.int = A at *
  refine ⟨.dat (.tuple [.list A, C']), .dat (.int 1), rfl, rfl, ?_⟩
  unfold most62
  rw [sCons_nx (fs1 := [.dat sc, .dat (.int x), .own 0 (.list [.int n]), .dat C, .dat (.int (M : Nat)), .dat (.tuple [.list A, C']), s6, s7, s8]) (by simp only [mkFn, sCons, sSet, sPar, sUnp, sIf, sRet, sRetN, sDrop, sNil, sBrk, sCnt, bndS, bnd, rt, opt, fVar, fVal, fBin, fUn, rd1, rd2, Rv.rd, Sl.rd, fD, fzM, Rv.fz, fCons, fNil, dCons, dNil, aCons, aNil, aBoxN, aBox, fCall, resolve, boxes, bxpos, wb, fNm, rdAll, fTup, fLst, hAdd, hSub, hInt2, hMulL, hLt, hLe, hGt, hGe, hNeg, hAbs, hLen, hInt1, hMax2, hMin2, hIx, fSl, oNone, oSome, hSl, fB, toB, fAnd, fOr, fNot, fAndV, fOrV, fNotV, fChain, kName, kTup, kCons, kNil, slOk, sStore, fMt, mtGo, hApp, hFdiv, hMod, hDivmod, outs, List.length_cons, List.length_nil, List.getElem?_cons_zero, List.getElem?_cons_succ, List.getElem?_nil, List.set_cons_zero, List.set_cons_succ, List.replicate_succ, List.replicate_zero, List.cons_append, List.nil_append, Option.bind_some, Option.map_some, cond_true, cond_false, ite_true, ite_false, Nat.reduceAdd, Nat.reduceSub, Nat.reduceEqDiff, Nat.reduceLeDiff, if_true, if_false, reduceIte, atI_n0, atI_n1, atI_n2, atI_n3, ixN_10, ixN_20, ixN_21, hEq_int, hNe_int, Bool.not_true, decide_true, decide_false, hTuple, sTryK, sRaise, Bool.false_eq_true, Bool.not_false, sz0, sz1, sz2, sz3, sz4, sz5, sz6, sz7, sz8, e2])]
  rw [sFor_of (fs1 := [.dat sc, .dat (.int x), .own 0 (.list [.int n]), .dat C, .dat (.int (M : Nat)), .dat (.tuple [.list A, C']), s6, s7, s8]) (ds := [.int 0, .int 1]) rfl]
  rw [forL_nx rfl (poke_turn (s6 := .dat (.int 0)) rfl h7 h8 e1 hne)]
  rw [forL_nx rfl (poke_turn (s6 := .dat (.int 1)) rfl rfl h8 e1 hne)]
  rfl
noncomputable abbrev body62 : SM := sCons (sSet 2 (fCall d_box (aCons (fVar 0) (aCons (fVar 1) aNil))))
  (sCons (sSet 3 (fCall d_change (aBoxN 2 (aCons (fVal (.int 6)) (aCons (fLst (dCons (fVal (.int 0)) (dCons (fVal (.int 0)) (dCons (fVal (.int 0)) (dCons (fVal (.int 2)) (dCons (fVal (.int 3)) (dCons (fVal (.int 5)) (dCons (fVal (.int 7)) dNil)))))))) aNil)))))
  (sCons (sFor (fiS (fD (fLst (dCons (fCall d_take (aBoxN 2 (aCons (fVal (.int 41)) aNil))) (dCons (fVal (.int 0)) (dCons (fBin hIx (fLst (dCons (fVal (.int 200)) (dCons (fVal (.int 60)) dNil))) (fNm hInt1 (fCons (fBin hGt (fBin hIx (fVar 3) (fVal (.int 0))) (fVal (.int 0))) fNil))) dNil)))))) (kName 4) most62)
  (sCons (sSet 8 (fBin hIx (fLst (dCons (fUn hNeg (fVal (.int 1))) (dCons (fVal (.int 201)) (dCons (fVal (.bool true)) (dCons (fVal .none) (dCons (fVal (.str "3")) (dCons (fTup (dCons (fVal (.int 3)) dNil)) (dCons (fBin hPow (fVal (.int 10)) (fVal (.int 39))) (dCons fDnew dNil))))))))) (fCall d_take (aBoxN 2 (aCons (fVal (.int 8)) aNil)))))
  (sIf (fOr (fB (fBin hNe (fCall d_said (aCons (fVar 3) (aCons (fVar 8) aNil))) (fVal (.str "number")))) (fB (fBin hNe (fCall d_said (aCons (fVar 3) (aCons (fVal (.bool false)) aNil))) (fVal (.str "number"))))) (sRet (fVal (.bool false))) sNil))))
theorem body_ok (ns : List Int) (hb : Bit20 ns) (x : Nat) (hx : x ≤ 6) (S : Nat → Sl) (h7 : intSl (S 7) = true) (h8 : intSl (S 8) = true) : ∃ U : Nat → Sl, intSl (U 7) = true ∧ intSl (U 8) = true ∧ body62 [.dat (.dict [(.none, .list (ns.map PyData.int))]), .dat (.int (x : Nat)), S 2, S 3, S 4, S 5, S 6, S 7, S 8] =
    some (.nx, [.dat (.dict [(.none, .list (ns.map PyData.int))]), .dat (.int (x : Nat)), U 2, U 3, U 4, U 5, U 6, U 7, U 8]) := by
  obtain ⟨n, eb⟩ := box_ex ns hb x (by omega)
  obtain ⟨n2, r, longs, O, hr, ha, hb2, hg, hp, ec⟩ := change_ex n 6 (by decide) (by decide) [0, 0, 0, 2, 3, 5, 7] (by simp) (by decide) (by decide)
  have hr' : okRoot r := by
    unfold okRoot
    simp at hr
    omega
  obtain ⟨L, rfl, hL1, hL2, hL3⟩ := goods_nm hg
  have hpos := goods_pos hr' hg
  rw [List.length_map] at ha hb2 hp
  have K : Okp r 10 L O := ⟨hr', hp, ha, by decide, by omega, hL1, fun p hp h0 => hL2 h0 p hp, hpos⟩
  have ec' : d_change [.own 1 (.list [.int n]), .dat (.int 6), .dat (.list [.int 0, .int 0, .int 0, .int 2, .int 3, .int 5, .int 7])] = some (.inr (false, chN r L O), [.own 1 (.list [.int n2]), .no, .no]) := ec
  obtain ⟨n3, d3, hd3, et3⟩ := take_nat n2 (m := 41) (by decide) (by decide)
  have et3' : d_take [.own 1 (.list [.int n2]), .dat (.int 41)] = _ := et3
  obtain ⟨n4, d4, hd4, et4⟩ := take_nat n3 (m := 8) (by decide) (by decide)
  have et4' : d_take [.own 1 (.list [.int n3]), .dat (.int 8)] = _ := et4
  obtain ⟨y, hy, hbad⟩ := bad_num8 d4 hd4
  have hs1 := said_number (chN r L O) y hbad
  have hs2 := said_number (chN r L O) (.bool false) (.inr (.inr (bool_bad false)))
  have pw := ne_number
  have p39 := pw39
  obtain ⟨m3, hm3, em3⟩ : ∃ m3 : Nat, m3 ≤ 200 ∧ atI [PyData.int 200, .int 60] (if decide (0 < r) = true then 1 else 0) = some (.int (m3 : Nat)) := by
    by_cases h : 0 < r
    · exact ⟨60, by decide, by rw [decide_eq_true h, if_pos rfl]; rfl⟩
    · exact ⟨200, by decide, by rw [decide_eq_false h, if_neg Bool.false_ne_true]; rfl⟩
  generalize hsc : (PyData.dict [(.none, .list (ns.map PyData.int))]) = sc at *
  obtain ⟨a5, a6, x5, x6, m1⟩ := most_turn K (by omega) d3 (by omega) (sc := sc) (x := (x : Nat)) (n := n3) (s5 := S 5) (s6 := S 6) (s7 := S 7) (s8 := S 8) h7 h8
  obtain ⟨b5, b6, y5, y6, m2⟩ := most_turn K (by omega) 0 (by omega) (sc := sc) (x := (x : Nat)) (n := n3) (s5 := a5) (s6 := a6) (s7 := .no) (s8 := S 8) rfl h8
  obtain ⟨c5, c6, z5, z6, m4⟩ := most_turn K (by omega) m3 hm3 (sc := sc) (x := (x : Nat)) (n := n3) (s5 := b5) (s6 := b6) (s7 := .no) (s8 := S 8) rfl h8
  have er : fiS (fD (fLst (dCons (fCall d_take (aBoxN 2 (aCons (fVal (.int 41)) aNil))) (dCons (fVal (.int 0)) (dCons (fBin hIx (fLst (dCons (fVal (.int 200)) (dCons (fVal (.int 60)) dNil))) (fNm hInt1 (fCons (fBin hGt (fBin hIx (fVar 3) (fVal (.int 0))) (fVal (.int 0))) fNil))) dNil))))) [.dat sc, .dat (.int (x : Nat)), .own 0 (.list [.int n2]), .dat (chN r L O), S 4, S 5, S 6, S 7, S 8] =
      some (.inr [.int (d3 : Nat), .int 0, .int (m3 : Nat)], [.dat sc, .dat (.int (x : Nat)), .own 0 (.list [.int n3]), .dat (chN r L O), S 4, S 5, S 6, S 7, S 8]) := by
    show fiS _ [.dat sc, .dat (.int (x : Nat)), .own 0 (.list [.int n2]), .dat (.tuple [.int r, .tuple (L.map nmP), .tuple (O.map PyData.int)]), S 4, S 5, S 6, S 7, S 8] = some (.inr _, [.dat sc, .dat (.int (x : Nat)), .own 0 (.list [.int n3]), .dat (.tuple [.int r, .tuple (L.map nmP), .tuple (O.map PyData.int)]), S 4, S 5, S 6, S 7, S 8])
    generalize L.map nmP = LL at *
    generalize O.map PyData.int = OO at *
    simp only [fiS, asS, mkFn, sCons, sSet, sPar, sUnp, sIf, sRet, sRetN, sDrop, sNil, sBrk, sCnt, bndS, bnd, rt, opt, fVar, fVal, fBin, fUn, rd1, rd2, Rv.rd, Sl.rd, fD, fzM, Rv.fz, fCons, fNil, dCons, dNil, aCons, aNil, aBoxN, aBox, fCall, resolve, boxes, bxpos, wb, fNm, rdAll, fTup, fLst, hAdd, hSub, hInt2, hMulL, hLt, hLe, hGt, hGe, hNeg, hAbs, hLen, hInt1, hMax2, hMin2, hIx, fSl, oNone, oSome, hSl, fB, toB, fAnd, fOr, fNot, fAndV, fOrV, fNotV, fChain, kName, kTup, kCons, kNil, slOk, sStore, fMt, mtGo, hApp, hFdiv, hMod, hDivmod, outs, List.length_cons, List.length_nil, List.getElem?_cons_zero, List.getElem?_cons_succ, List.getElem?_nil, List.set_cons_zero, List.set_cons_succ, List.replicate_succ, List.replicate_zero, List.cons_append, List.nil_append, Option.bind_some, Option.map_some, cond_true, cond_false, ite_true, ite_false, Nat.reduceAdd, Nat.reduceSub, Nat.reduceEqDiff, Nat.reduceLeDiff, if_true, if_false, reduceIte, atI_n0, atI_n1, atI_n2, atI_n3, ixN_10, ixN_20, ixN_21, hEq_int, hNe_int, Bool.not_true, decide_true, decide_false, hTuple, sTryK, sRaise, Bool.false_eq_true, Bool.not_false, sz0, sz1, sz2, sz3, sz4, sz5, sz6, sz7, sz8, et3', em3]
  refine ⟨fun i => match i with
    | 2 => .own 0 (.list [.int n4]) | 3 => .dat (chN r L O) | 4 => .dat (.int (m3 : Nat)) | 5 => c5 | 6 => c6 | 7 => .no | _ => .dat y, rfl, rfl, ?_⟩
  show body62 [.dat sc, .dat (.int (x : Nat)), S 2, S 3, S 4, S 5, S 6, S 7, S 8] = some (.nx, [.dat sc, .dat (.int (x : Nat)), .own 0 (.list [.int n4]), .dat (chN r L O), .dat (.int (m3 : Nat)), c5, c6, .no, .dat y])
  clear K hpos
  generalize chN r L O = C at *
  unfold body62
  rw [sCons_nx (fs1 := [.dat sc, .dat (.int (x : Nat)), .own 0 (.list [.int n]), S 3, S 4, S 5, S 6, S 7, S 8]) (by simp only [mkFn, sCons, sSet, sPar, sUnp, sIf, sRet, sRetN, sDrop, sNil, sBrk, sCnt, bndS, bnd, rt, opt, fVar, fVal, fBin, fUn, rd1, rd2, Rv.rd, Sl.rd, fD, fzM, Rv.fz, fCons, fNil, dCons, dNil, aCons, aNil, aBoxN, aBox, fCall, resolve, boxes, bxpos, wb, fNm, rdAll, fTup, fLst, hAdd, hSub, hInt2, hMulL, hLt, hLe, hGt, hGe, hNeg, hAbs, hLen, hInt1, hMax2, hMin2, hIx, fSl, oNone, oSome, hSl, fB, toB, fAnd, fOr, fNot, fAndV, fOrV, fNotV, fChain, kName, kTup, kCons, kNil, slOk, sStore, fMt, mtGo, hApp, hFdiv, hMod, hDivmod, outs, List.length_cons, List.length_nil, List.getElem?_cons_zero, List.getElem?_cons_succ, List.getElem?_nil, List.set_cons_zero, List.set_cons_succ, List.replicate_succ, List.replicate_zero, List.cons_append, List.nil_append, Option.bind_some, Option.map_some, cond_true, cond_false, ite_true, ite_false, Nat.reduceAdd, Nat.reduceSub, Nat.reduceEqDiff, Nat.reduceLeDiff, if_true, if_false, reduceIte, atI_n0, atI_n1, atI_n2, atI_n3, ixN_10, ixN_20, ixN_21, hEq_int, hNe_int, Bool.not_true, decide_true, decide_false, hTuple, sTryK, sRaise, Bool.false_eq_true, Bool.not_false, sz0, sz1, sz2, sz3, sz4, sz5, sz6, sz7, sz8, eb])]
  rw [sCons_nx (fs1 := [.dat sc, .dat (.int (x : Nat)), .own 0 (.list [.int n2]), .dat C, S 4, S 5, S 6, S 7, S 8]) (by simp only [mkFn, sCons, sSet, sPar, sUnp, sIf, sRet, sRetN, sDrop, sNil, sBrk, sCnt, bndS, bnd, rt, opt, fVar, fVal, fBin, fUn, rd1, rd2, Rv.rd, Sl.rd, fD, fzM, Rv.fz, fCons, fNil, dCons, dNil, aCons, aNil, aBoxN, aBox, fCall, resolve, boxes, bxpos, wb, fNm, rdAll, fTup, fLst, hAdd, hSub, hInt2, hMulL, hLt, hLe, hGt, hGe, hNeg, hAbs, hLen, hInt1, hMax2, hMin2, hIx, fSl, oNone, oSome, hSl, fB, toB, fAnd, fOr, fNot, fAndV, fOrV, fNotV, fChain, kName, kTup, kCons, kNil, slOk, sStore, fMt, mtGo, hApp, hFdiv, hMod, hDivmod, outs, List.length_cons, List.length_nil, List.getElem?_cons_zero, List.getElem?_cons_succ, List.getElem?_nil, List.set_cons_zero, List.set_cons_succ, List.replicate_succ, List.replicate_zero, List.cons_append, List.nil_append, Option.bind_some, Option.map_some, cond_true, cond_false, ite_true, ite_false, Nat.reduceAdd, Nat.reduceSub, Nat.reduceEqDiff, Nat.reduceLeDiff, if_true, if_false, reduceIte, atI_n0, atI_n1, atI_n2, atI_n3, ixN_10, ixN_20, ixN_21, hEq_int, hNe_int, Bool.not_true, decide_true, decide_false, hTuple, sTryK, sRaise, Bool.false_eq_true, Bool.not_false, sz0, sz1, sz2, sz3, sz4, sz5, sz6, sz7, sz8, ec'])]
  rw [sCons_nx (fs1 := [.dat sc, .dat (.int (x : Nat)), .own 0 (.list [.int n3]), .dat C, .dat (.int (m3 : Nat)), c5, c6, .no, S 8]) (by
    rw [sFor_of er]
    rw [forL_nx rfl m1]
    rw [forL_nx rfl m2]
    rw [forL_nx rfl m4]
    rfl)]
  rw [sCons_nx (fs1 := [.dat sc, .dat (.int (x : Nat)), .own 0 (.list [.int n4]), .dat C, .dat (.int (m3 : Nat)), c5, c6, .no, .dat y]) (by simp only [mkFn, sCons, sSet, sPar, sUnp, sIf, sRet, sRetN, sDrop, sNil, sBrk, sCnt, bndS, bnd, rt, opt, fVar, fVal, fBin, fUn, rd1, rd2, Rv.rd, Sl.rd, fD, fzM, Rv.fz, fCons, fNil, dCons, dNil, aCons, aNil, aBoxN, aBox, fCall, resolve, boxes, bxpos, wb, fNm, rdAll, fTup, fLst, hAdd, hSub, hInt2, hMulL, hLt, hLe, hGt, hGe, hNeg, hAbs, hLen, hInt1, hMax2, hMin2, hIx, fSl, oNone, oSome, hSl, fB, toB, fAnd, fOr, fNot, fAndV, fOrV, fNotV, fChain, kName, kTup, kCons, kNil, slOk, sStore, fMt, mtGo, hApp, hFdiv, hMod, hDivmod, outs, List.length_cons, List.length_nil, List.getElem?_cons_zero, List.getElem?_cons_succ, List.getElem?_nil, List.set_cons_zero, List.set_cons_succ, List.replicate_succ, List.replicate_zero, List.cons_append, List.nil_append, Option.bind_some, Option.map_some, cond_true, cond_false, ite_true, ite_false, Nat.reduceAdd, Nat.reduceSub, Nat.reduceEqDiff, Nat.reduceLeDiff, if_true, if_false, reduceIte, atI_n0, atI_n1, atI_n2, atI_n3, ixN_10, ixN_20, ixN_21, hEq_int, hNe_int, Bool.not_true, decide_true, decide_false, hTuple, sTryK, sRaise, Bool.false_eq_true, Bool.not_false, sz0, sz1, sz2, sz3, sz4, sz5, sz6, sz7, sz8, fDnew, et4', p39, atI_natE, hy])]
  simp only [mkFn, sCons, sSet, sPar, sUnp, sIf, sRet, sRetN, sDrop, sNil, sBrk, sCnt, bndS, bnd, rt, opt, fVar, fVal, fBin, fUn, rd1, rd2, Rv.rd, Sl.rd, fD, fzM, Rv.fz, fCons, fNil, dCons, dNil, aCons, aNil, aBoxN, aBox, fCall, resolve, boxes, bxpos, wb, fNm, rdAll, fTup, fLst, hAdd, hSub, hInt2, hMulL, hLt, hLe, hGt, hGe, hNeg, hAbs, hLen, hInt1, hMax2, hMin2, hIx, fSl, oNone, oSome, hSl, fB, toB, fAnd, fOr, fNot, fAndV, fOrV, fNotV, fChain, kName, kTup, kCons, kNil, slOk, sStore, fMt, mtGo, hApp, hFdiv, hMod, hDivmod, outs, List.length_cons, List.length_nil, List.getElem?_cons_zero, List.getElem?_cons_succ, List.getElem?_nil, List.set_cons_zero, List.set_cons_succ, List.replicate_succ, List.replicate_zero, List.cons_append, List.nil_append, Option.bind_some, Option.map_some, cond_true, cond_false, ite_true, ite_false, Nat.reduceAdd, Nat.reduceSub, Nat.reduceEqDiff, Nat.reduceLeDiff, if_true, if_false, reduceIte, atI_n0, atI_n1, atI_n2, atI_n3, ixN_10, ixN_20, ixN_21, hEq_int, hNe_int, Bool.not_true, decide_true, decide_false, hTuple, sTryK, sRaise, Bool.false_eq_true, Bool.not_false, sz0, sz1, sz2, sz3, sz4, sz5, sz6, sz7, sz8, hs1, hs2, pw]
abbrev scrD (ns : List Int) : Fs := [.dat (.dict [(.none, .list (ns.map PyData.int))])]
theorem den_law (ns : List Int) (hb : Bit20 ns) : d_law (scrD ns) = some (.inr (false, .bool true), [.no]) := by
  generalize hN : (if (1 : Int) < (if ((ns.map PyData.int).length : Int) > 4 then 4 else ((ns.map PyData.int).length : Int)) then (if ((ns.map PyData.int).length : Int) > 4 then 4 else ((ns.map PyData.int).length : Int)) else 1) = N
  obtain ⟨k, hk, hk2⟩ : ∃ k : Nat, N = (k : Nat) ∧ k ≤ 6 := ⟨N.toNat, by split at hN <;> split at hN <;> omega, by split at hN <;> split at hN <;> omega⟩
  have hx := forL_ind (g := kName 1) (b := body62)
    (fun _ fs => ∃ (S1 : Sl) (S : Nat → Sl), intSl (S 7) = true ∧ intSl (S 8) = true ∧ fs = [.dat (.dict [(.none, .list (ns.map PyData.int))]), S1, S 2, S 3, S 4, S 5, S 6, S 7, S 8]) ((upto k).map PyData.int) 0 [.dat (.dict [(.none, .list (ns.map PyData.int))]), .no, .no, .no, .no, .no, .no, .no, .no] ⟨.no, fun _ => .no, rfl, rfl, rfl⟩ (by
      rintro i d fs hd ⟨S1, S, h7, h8, rfl⟩
      rw [List.getElem?_map] at hd
      obtain ⟨x, hx, rfl⟩ := Option.map_eq_some_iff.mp hd
      have hx2 := upto_mem.mp (List.mem_of_getElem? hx)
      obtain ⟨y, rfl⟩ : ∃ y : Nat, x = (y : Nat) := ⟨x.toNat, by omega⟩
      obtain ⟨U, u7, u8, e⟩ := body_ok ns hb y (by omega) S h7 h8
      exact ⟨_, _, rfl, .inl e, _, U, u7, u8, rfl⟩)
  obtain ⟨fs', ef, S1, S, h7, h8, rfl⟩ := hx
  unfold d_law
  refine mkFn_ret rfl ?_ (fs := [.dat (.dict [(.none, .list (ns.map PyData.int))]), S1, S 2, S 3, S 4, S 5, S 6, S 7, S 8])
  rw [sCons_nx (fs1 := [.dat (.dict [(.none, .list (ns.map PyData.int))]), S1, S 2, S 3, S 4, S 5, S 6, S 7, S 8]) (by
    rw [sFor_of (fs1 := [.dat (.dict [(.none, .list (ns.map PyData.int))]), .no, .no, .no, .no, .no, .no, .no, .no]) (ds := (upto k).map PyData.int)]
    · exact ef
    · have h1 : smI ((k : Nat) : Int) = true := smI_of (by omega) (by omega)
      subst hk
      simp only [gt_iff_lt] at hN
      simp only [fiR1, mkFn, sCons, sSet, sPar, sUnp, sIf, sRet, sRetN, sDrop, sNil, sBrk, sCnt, bndS, bnd, rt, opt, fVar, fVal, fBin, fUn, rd1, rd2, Rv.rd, Sl.rd, fD, fzM, Rv.fz, fCons, fNil, dCons, dNil, aCons, aNil, aBoxN, aBox, fCall, resolve, boxes, bxpos, wb, fNm, rdAll, fTup, fLst, hAdd, hSub, hInt2, hMulL, hLt, hLe, hGt, hGe, hNeg, hAbs, hLen, hInt1, hMax2, hMin2, hIx, fSl, oNone, oSome, hSl, fB, toB, fAnd, fOr, fNot, fAndV, fOrV, fNotV, fChain, kName, kTup, kCons, kNil, slOk, sStore, fMt, mtGo, hApp, hFdiv, hMod, hDivmod, outs, List.length_cons, List.length_nil, List.getElem?_cons_zero, List.getElem?_cons_succ, List.getElem?_nil, List.set_cons_zero, List.set_cons_succ, List.replicate_succ, List.replicate_zero, List.cons_append, List.nil_append, Option.bind_some, Option.map_some, cond_true, cond_false, ite_true, ite_false, Nat.reduceAdd, Nat.reduceSub, Nat.reduceEqDiff, Nat.reduceLeDiff, if_true, if_false, reduceIte, atI_n0, atI_n1, atI_n2, atI_n3, ixN_10, ixN_20, ixN_21, hEq_int, hNe_int, Bool.not_true, decide_true, decide_false, hTuple, sTryK, sRaise, Bool.false_eq_true, Bool.not_false, sz0, sz1, sz2, sz3, sz4, sz5, sz6, sz7, sz8, gt_iff_lt, hN, h1, rng_upto, Int.toNat_natCast])]
  simp only [mkFn, sCons, sSet, sPar, sUnp, sIf, sRet, sRetN, sDrop, sNil, sBrk, sCnt, bndS, bnd, rt, opt, fVar, fVal, fBin, fUn, rd1, rd2, Rv.rd, Sl.rd, fD, fzM, Rv.fz, fCons, fNil, dCons, dNil, aCons, aNil, aBoxN, aBox, fCall, resolve, boxes, bxpos, wb, fNm, rdAll, fTup, fLst, hAdd, hSub, hInt2, hMulL, hLt, hLe, hGt, hGe, hNeg, hAbs, hLen, hInt1, hMax2, hMin2, hIx, fSl, oNone, oSome, hSl, fB, toB, fAnd, fOr, fNot, fAndV, fOrV, fNotV, fChain, kName, kTup, kCons, kNil, slOk, sStore, fMt, mtGo, hApp, hFdiv, hMod, hDivmod, outs, List.length_cons, List.length_nil, List.getElem?_cons_zero, List.getElem?_cons_succ, List.getElem?_nil, List.set_cons_zero, List.set_cons_succ, List.replicate_succ, List.replicate_zero, List.cons_append, List.nil_append, Option.bind_some, Option.map_some, cond_true, cond_false, ite_true, ite_false, Nat.reduceAdd, Nat.reduceSub, Nat.reduceEqDiff, Nat.reduceLeDiff, if_true, if_false, reduceIte, atI_n0, atI_n1, atI_n2, atI_n3, ixN_10, ixN_20, ixN_21, hEq_int, hNe_int, Bool.not_true, decide_true, decide_false, hTuple, sTryK, sRaise, Bool.false_eq_true, Bool.not_false, sz0, sz1, sz2, sz3, sz4, sz5, sz6, sz7, sz8]
end Fx.L

open PySem PySem.W PyProof.Rows
set_option maxHeartbeats 0 in
theorem PySem.Challenge.cw_cutexchange_k62_steps_done_holds : PySem.Challenge.rw_cutexchange_k62_steps_done.Holds := by
  w_on; o_law; k_head; (case hw => w_witness2)
  k_fill
  refine Fx.law_head (l := PySem.Challenge.rw_cutexchange_k62_steps_done) (n := 63) (k := 10) (x := "_law_script") Fx.L.d_law rfl (by decide) rfl ⟨rfl, by decide, by decide⟩ (fun w h Y => PySem.W.kIn_of Y) ?F (fun ns _ hb => Fx.L.den_law ns hb)
  case F =>
    intro w mg fa h KX G hmg
    refine' Fx.L.all_mk KX G hmg ?a0 ?l0 ?c0 ?k0 ?a1 ?l1 ?c1 ?k1 ?a2 ?l2 ?c2 ?k2 ?a3 ?l3 ?c3 ?k3 ?a4 ?l4 ?c4 ?k4 ?a5 ?l5 ?c5 ?k5 ?a6 ?l6 ?c6 ?k6 ?a7 ?l7 ?c7 ?k7 ?a8 ?l8 ?c8 ?k8 ?a9 ?l9 ?c9 ?k9 ?a10 ?l10 ?c10 ?k10 ?a11 ?l11 ?c11 ?k11 ?a12 ?l12 ?c12 ?k12 ?a13 ?l13 ?c13 ?k13 ?a14 ?l14 ?c14 ?k14 ?a15 ?l15 ?c15 ?k15 ?a16 ?l16 ?c16 ?k16 ?a17 ?l17 ?c17 ?k17 ?a18 ?l18 ?c18 ?k18 ?a19 ?l19 ?c19 ?k19 ?a20 ?l20 ?c20 ?k20 ?a21 ?l21 ?c21 ?k21 ?a22 ?l22 ?c22 ?k22 ?a23 ?l23 ?c23 ?k23 ?a24 ?l24 ?c24 ?k24 ?a25 ?l25 ?c25 ?k25 ?a26 ?l26 ?c26 ?k26 ?a27 ?l27 ?c27 ?k27 ?yc_NoChange ?yc_NoNumber ?yc_NoPoint ?yc_NoStep ?yc_NoWord ?yc_StretchError ?yc_TooMany ?yc_Unlike ?ye_NoNumber ?yq_NoNumber ?yk_NoNumber ?yb_NoNumber ?yt_NoNumber ?yx1_NoNumber ?yx2_NoNumber ?yx4_NoNumber ?yx5_NoNumber ?yx8_NoNumber ?ym_NoNumber_StretchError ?yi_NoNumber_NoChange ?yi_NoNumber_NoNumber ?yi_NoNumber_NoPoint ?yi_NoNumber_NoStep ?yi_NoNumber_NoWord ?yi_NoNumber_TooMany ?yi_NoNumber_Unlike ?ye_NoStep ?yq_NoStep ?yk_NoStep ?yb_NoStep ?yt_NoStep ?yx1_NoStep ?yx2_NoStep ?yx4_NoStep ?yx5_NoStep ?yx8_NoStep ?ym_NoStep_StretchError ?yi_NoStep_NoChange ?yi_NoStep_NoNumber ?yi_NoStep_NoPoint ?yi_NoStep_NoStep ?yi_NoStep_NoWord ?yi_NoStep_TooMany ?yi_NoStep_Unlike ?yx6 ?yx7 ?yg_MOST_STEPS ?z_abs ?z_bool ?z_divmod ?z_int ?z_isinstance ?z_len ?z_list ?z_max ?z_min ?z_range ?z_tuple
    (case a0 => k_is)
    (case l0 => k_is)
    (case c0 => k_is)
    (case k0 => k_is)
    (case a1 => k_is)
    (case l1 => k_is)
    (case c1 => k_is)
    (case k1 => k_is)
    (case a2 => k_is)
    (case l2 => k_is)
    (case c2 => k_is)
    (case k2 => k_is)
    (case a3 => k_is)
    (case l3 => k_is)
    (case c3 => k_is)
    (case k3 => k_is)
    (case a4 => k_is)
    (case l4 => k_is)
    (case c4 => k_is)
    (case k4 => k_is)
    (case a5 => k_is)
    (case l5 => k_is)
    (case c5 => k_is)
    (case k5 => k_is)
    (case a6 => k_is)
    (case l6 => k_is)
    (case c6 => k_is)
    (case k6 => k_is)
    (case a7 => k_is)
    (case l7 => k_is)
    (case c7 => k_is)
    (case k7 => k_is)
    (case a8 => k_is)
    (case l8 => k_is)
    (case c8 => k_is)
    (case k8 => k_is)
    (case a9 => k_is)
    (case l9 => k_is)
    (case c9 => k_is)
    (case k9 => k_is)
    (case a10 => k_is)
    (case l10 => k_is)
    (case c10 => k_is)
    (case k10 => k_is)
    (case a11 => k_is)
    (case l11 => k_is)
    (case c11 => k_is)
    (case k11 => k_is)
    (case a12 => k_is)
    (case l12 => k_is)
    (case c12 => k_is)
    (case k12 => k_is)
    (case a13 => k_is)
    (case l13 => k_is)
    (case c13 => k_is)
    (case k13 => k_is)
    (case a14 => k_is)
    (case l14 => k_is)
    (case c14 => k_is)
    (case k14 => k_is)
    (case a15 => k_is)
    (case l15 => k_is)
    (case c15 => k_is)
    (case k15 => k_is)
    (case a16 => k_is)
    (case l16 => k_is)
    (case c16 => k_is)
    (case k16 => k_is)
    (case a17 => k_is)
    (case l17 => k_is)
    (case c17 => k_is)
    (case k17 => k_is)
    (case a18 => k_is)
    (case l18 => k_is)
    (case c18 => k_is)
    (case k18 => k_is)
    (case a19 => k_is)
    (case l19 => k_is)
    (case c19 => k_is)
    (case k19 => k_is)
    (case a20 => k_is)
    (case l20 => k_is)
    (case c20 => k_is)
    (case k20 => k_is)
    (case a21 => k_is)
    (case l21 => k_is)
    (case c21 => k_is)
    (case k21 => k_is)
    (case a22 => k_is)
    (case l22 => k_is)
    (case c22 => k_is)
    (case k22 => k_is)
    (case a23 => k_is)
    (case l23 => k_is)
    (case c23 => k_is)
    (case k23 => k_is)
    (case a24 => k_is)
    (case l24 => k_is)
    (case c24 => k_is)
    (case k24 => k_is)
    (case a25 => k_is)
    (case l25 => k_is)
    (case c25 => k_is)
    (case k25 => k_is)
    (case a26 => k_is)
    (case l26 => k_is)
    (case c26 => k_is)
    (case k26 => k_is)
    (case a27 => k_is)
    (case l27 => k_is)
    (case c27 => k_is)
    (case k27 => k_is)
    (case yc_NoChange => k_is)
    (case yc_NoNumber => k_is)
    (case yc_NoPoint => k_is)
    (case yc_NoStep => k_is)
    (case yc_NoWord => k_is)
    (case yc_StretchError => k_is)
    (case yc_TooMany => k_is)
    (case yc_Unlike => k_is)
    (case ye_NoNumber => k_is)
    (case yq_NoNumber => k_exc)
    (case yk_NoNumber => k_is)
    (case yb_NoNumber => k_is)
    (case yt_NoNumber => k_is)
    (case yx1_NoNumber => k_is)
    (case yx2_NoNumber => k_is)
    (case yx4_NoNumber => k_is)
    (case yx5_NoNumber => k_is)
    (case yx8_NoNumber => k_is)
    (case ym_NoNumber_StretchError => first | k_is | rfl)
    (case yi_NoNumber_NoChange => first | k_is | rfl)
    (case yi_NoNumber_NoNumber => first | k_is | rfl)
    (case yi_NoNumber_NoPoint => first | k_is | rfl)
    (case yi_NoNumber_NoStep => first | k_is | rfl)
    (case yi_NoNumber_NoWord => first | k_is | rfl)
    (case yi_NoNumber_TooMany => first | k_is | rfl)
    (case yi_NoNumber_Unlike => first | k_is | rfl)
    (case ye_NoStep => k_is)
    (case yq_NoStep => k_exc)
    (case yk_NoStep => k_is)
    (case yb_NoStep => k_is)
    (case yt_NoStep => k_is)
    (case yx1_NoStep => k_is)
    (case yx2_NoStep => k_is)
    (case yx4_NoStep => k_is)
    (case yx5_NoStep => k_is)
    (case yx8_NoStep => k_is)
    (case ym_NoStep_StretchError => first | k_is | rfl)
    (case yi_NoStep_NoChange => first | k_is | rfl)
    (case yi_NoStep_NoNumber => first | k_is | rfl)
    (case yi_NoStep_NoPoint => first | k_is | rfl)
    (case yi_NoStep_NoStep => first | k_is | rfl)
    (case yi_NoStep_NoWord => first | k_is | rfl)
    (case yi_NoStep_TooMany => first | k_is | rfl)
    (case yi_NoStep_Unlike => first | k_is | rfl)
    (case yx6 => k_is)
    (case yx7 => k_is)
    (case yg_MOST_STEPS => k_is)
    (case z_abs => k_is)
    (case z_bool => k_is)
    (case z_divmod => k_is)
    (case z_int => k_is)
    (case z_isinstance => k_is)
    (case z_len => k_is)
    (case z_list => k_is)
    (case z_max => k_is)
    (case z_min => k_is)
    (case z_range => k_is)
    (case z_tuple => k_is)
