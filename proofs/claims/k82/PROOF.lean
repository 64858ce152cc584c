import PyProof.Rows.All
import Wide.All
import OpenK.AllK
import Wide.FinOn
import HandS.Zip0
import HandS.Conv
import HandS.Iter
import KE.GoesMore
import KE.GoesEnum
import HandS.ForMost
import HandS.Exc
import HandS.TryOnly
import HandS.ExcOwn
import HandS.WordsExc
import HandS.CallSlots
import HandS.Deep
import HandS.Wide
import HandS.WideBits
import HandS.TupAny
import HandS.Zip
import HandS.Strs
import HandS.IsInst
import HandS.Style
import HandS.TupMul
import KE.DataMinMax
import KE.KSortedM
import HandS.More
import HandS.SortInts
import HandS.EndBits
import HandS.HotCalls
import HandS.ExcIs
import HandS.Rev
import KE.DataFind
import PySem.Challenge.RW_cutexchange_k82_laid_side_by_side
set_option Elab.async false
set_option linter.all false
set_option maxRecDepth 100000
set_option maxHeartbeats 4000000
/-! list(zip(a tuple, a list)) -/
namespace ZL
open PySem
open PySem.Sem (wp)
section
variable {prog : Program} {w : World} {A : Around} {E : Value → Shared → Prop} {s : Shared}
abbrev IsZf (h : Heap) (z TI TO : Addr) (f0 : Value) (f1 : Bool) : Prop :=
  h.get? z = some { cls := .type "zip", dict := none, data := .fields #[f0, .bool f1, .bool false, .ref TI, .ref TO], slots := #[] }

abbrev zH1 (h : Heap) (l1 : Addr) : Heap := h.push { cls := .type "tuple_iterator", data := .fields #[.ref l1, .int 0 0] }
abbrev zH2 (h : Heap) (l1 l2 : Addr) : Heap := (zH1 h l1).push { cls := .type "list_iterator", data := .fields #[.ref l2, .int 0 0] }
abbrev zH3 (h : Heap) (l1 l2 : Addr) : Heap := (zH2 h l1 l2).push { cls := .type "tuple", data := .seq #[.ref h.objs.size, .ref (zH1 h l1).objs.size] }
abbrev zH4 (h : Heap) (l1 l2 : Addr) : Heap := (zH3 h l1 l2).push { cls := .type "tuple", data := .seq #[.none, .none] }
abbrev zH5 (h : Heap) (l1 l2 : Addr) : Heap := (zH4 h l1 l2).push { cls := .type "zip", data := .fields #[.none, .bool false, .bool false, .ref (zH2 h l1 l2).objs.size, .ref (zH3 h l1 l2).objs.size] }
theorem meets_zip_mix (l1 l2 : Addr) (xs ys : Array Value) :
    Meets (Builtin.«zip.__new__» ⟨[.type "zip", .ref l1, .ref l2], []⟩) (fun _ R s => s.heap.IsTuple l1 xs ∧ s.heap.IsList l2 ys ∧
      R (.ok (.ret (.ref (zH4 s.heap l1 l2).objs.size))) { s with heap := zH5 s.heap l1 l2 }) :=
  .of_wp fun prog w A R s h => by
    obtain ⟨hp, g, d, tk, os⟩ := s; obtain ⟨hl1, hl2, h⟩ := h
    have hsub := sub_zip
    have hL1 : Heap.IsTuple (Shared.heap ⟨hp, g, d, tk, os⟩) l1 xs := hl1
    have hL2 : Heap.IsList (Shared.heap ⟨hp.push { cls := .type "tuple_iterator", data := .fields #[.ref l1, .int 0 0] }, g, d, tk, os⟩) l2 ys := Heap.IsList.push hl2 _
    wp_walk using wpAny_pyIter_tuple hL1, wpAny_pyIter_list hL2
    exact ⟨_, rfl, h⟩
theorem call_zip_mix {l1 l2 : Addr} {xs ys : Array Value} {Q : Value → Shared → Prop} (hl1 : s.heap.IsTuple l1 xs) (hl2 : s.heap.IsList l2 ys)
    (h : ∀ h', IsZf h' (s.heap.objs.size + 4) (s.heap.objs.size + 2) (s.heap.objs.size + 3) .none false → IsPair h' (s.heap.objs.size + 2) (.ref s.heap.objs.size) (.ref (s.heap.objs.size + 1)) →
      IsPair h' (s.heap.objs.size + 3) .none .none → h'.IsTupleIter s.heap.objs.size l1 0 → h'.IsListIter (s.heap.objs.size + 1) l2 0 → h'.objs.size = s.heap.objs.size + 5 →
      (∀ c o, s.heap.get? c = some o → h'.get? c = some o) → Q (.ref (s.heap.objs.size + 4)) { s with heap := h' }) :
    wpAny (model prog w) A (call (.type "zip") [.ref l1, .ref l2]) Q E s := by
  refine callType_new F.called_zip (by decide) (F.typeCall_zip_2 _ _) (F.newCall_zip_2 _ _) (fun obj => F.args_object_init_3 obj _ _) F.entry_zip_new
    (meets_zip_mix l1 l2 xs ys) ⟨hl1, hl2, ?_⟩
  have z1 : (zH1 s.heap l1).objs.size = s.heap.objs.size + 1 := Heap.size_push ..
  have z2 : (zH2 s.heap l1 l2).objs.size = s.heap.objs.size + 2 := by rw [Heap.size_push, z1]
  have z3 : (zH3 s.heap l1 l2).objs.size = s.heap.objs.size + 3 := by rw [Heap.size_push, z2]
  have z4 : (zH4 s.heap l1 l2).objs.size = s.heap.objs.size + 4 := by rw [Heap.size_push, z3]
  have z5 : (zH5 s.heap l1 l2).objs.size = s.heap.objs.size + 5 := by rw [Heap.size_push, z4]
  have g5 : (zH5 s.heap l1 l2).get? (zH4 s.heap l1 l2).objs.size = some _ := Heap.get?_push_size _ rfl
  have g4 : (zH5 s.heap l1 l2).get? (zH3 s.heap l1 l2).objs.size = some _ := Heap.get?_push_of_some _ (Heap.get?_push_size _ rfl)
  have g3 : (zH5 s.heap l1 l2).get? (zH2 s.heap l1 l2).objs.size = some _ := Heap.get?_push_of_some _ (Heap.get?_push_of_some _ (Heap.get?_push_size _ rfl))
  have g2 : (zH5 s.heap l1 l2).get? (zH1 s.heap l1).objs.size = some _ := Heap.get?_push_of_some _ (Heap.get?_push_of_some _ (Heap.get?_push_of_some _ (Heap.get?_push_size _ rfl)))
  have g1 : (zH5 s.heap l1 l2).get? s.heap.objs.size = some _ := Heap.get?_push_of_some _ (Heap.get?_push_of_some _ (Heap.get?_push_of_some _ (Heap.get?_push_of_some _ (Heap.get?_push_size _ rfl))))
  show _ ∧ _
  rw [z2, z3, z4] at g5
  rw [z1, z2] at g3
  rw [z3] at g4
  rw [z1] at g2
  rw [z4]
  exact ⟨⟨_, g5, rfl⟩, h _ g5 g3 g4 ⟨_, g1, rfl, rfl⟩ ⟨_, g2, rfl, rfl⟩ z5 fun c o x =>
    Heap.get?_push_of_some _ (Heap.get?_push_of_some _ (Heap.get?_push_of_some _ (Heap.get?_push_of_some _ (Heap.get?_push_of_some _ x))))⟩

/-- the first item: the owned tuple is free -/
theorem next_first {z TI TO i1 i2 l1 l2 : Addr} {k1 k2 : Nat} {xs ys : Array Value} {x y a b : Value} {Q : Value → Shared → Prop} (D : ZipApart z TI TO i1 i2 l1 l2)
    (hz : IsZf s.heap z TI TO .none false) (hTI : IsPair s.heap TI (.ref i1) (.ref i2)) (hTO : IsPair s.heap TO a b)
    (h1 : s.heap.IsTupleIter i1 l1 k1) (h2 : s.heap.IsListIter i2 l2 k2) (hl1 : s.heap.IsTuple l1 xs) (hl2 : s.heap.IsList l2 ys) (hx : xs[k1]? = some x) (hy : ys[k2]? = some y)
    (hQ : ∀ h', IsZf h' z TI TO (rawInt s.heap.objs.size) false → IsPair h' TO x y → h'.IsTupleIter i1 l1 (k1 + 1) → h'.IsListIter i2 l2 (k2 + 1) → IsPair h' s.heap.objs.size x y → h'.objs.size = s.heap.objs.size + 1 →
      (∀ c o, c ≠ z → c ≠ TO → c ≠ i1 → c ≠ i2 → s.heap.get? c = some o → h'.get? c = some o) → Q (.ref s.heap.objs.size) { s with heap := h' }) :
    wpAny (model prog w) A (Builtin.«zip.__next__» ⟨[.ref z], []⟩) (fun fin s' => ∃ v, fin = .done (.ret v) ∧ Q v s') E s := by
  show wpAny _ _ (field (.ref z) 2 >>= _) _ _ _
  refine wpAny_bind (wpAny_field hz rfl (x := .bool false) rfl ?_)
  show wpAny _ _ (field (.ref z) 3 >>= _) _ _ _
  refine wpAny_bind (wpAny_field hz rfl (x := .ref TI) rfl ?_)
  refine wpAny_bind (wpAny_seqItems hTI rfl ?_)
  show wpAny _ _ (Builtin.SmallTypes.ownedTupleIsFree (.ref z) >>= _) _ _ _
  refine wpAny_bind ?_
  unfold Builtin.SmallTypes.ownedTupleIsFree
  refine wpAny_bind (wpAny_field hz rfl (x := .none) rfl (wpAny_pure ?_))
  simp only [if_true]
  refine wpAny_bind (wpAny_rule ?_)
  refine wpAny_bind (wpAny_field hz rfl (x := .ref TO) rfl ?_)
  refine wpAny_bind (wpAny_setField_rec hz (by simp) fun h₁ hz₁ hs₁ => ?_)
  replace hz₁ : IsZf h₁ z TI TO .ellipsis false := hz₁
  refine wpAny_bind ?_
  simp only [List.zipIdx_cons, List.zipIdx_nil, List.forIn_cons, List.forIn_nil]
  refine wpAny_bind (wpAny_bind (wpAny_onRaise ?_))
  show wpAny _ _ (Builtin.SmallTypes.nextOf (.ref i1) >>= _) _ _ _
  refine wpAny_bind (RZ.nextOf_tuple_item (h1.extBut hs₁.extBut D.i1z) (hl1.extBut hs₁.extBut D.l1z) hx fun h₂ h1₂ hs₂ => wpAny_pure ?_)
  have hTO₂ : IsPair h₂ TO a b := hs₂.extBut _ _ D.TOi1 (hs₁.extBut _ _ D.TOz hTO)
  refine wpAny_bind (wpAny_seqItems hTO₂ rfl ?_)
  refine wpAny_bind (wpAny_updateSeq_pair hTO₂ fun h₃ hTO₃ hs₃ => ?_)
  replace hTO₃ : IsPair h₃ TO x b := hTO₃
  refine wpAny_bind (wpAny_letGo (wpAny_pure ?_))
  refine wpAny_bind (wpAny_bind (wpAny_onRaise ?_))
  show wpAny _ _ (Builtin.SmallTypes.nextOf (.ref i2) >>= _) _ _ _
  refine wpAny_bind (wpAny_nextOf_list_item (((h2.extBut hs₁.extBut D.i2z).extBut hs₂.extBut D.i12.symm).extBut hs₃.extBut D.TOi2.symm)
    (((hl2.extBut hs₁.extBut D.l2z).extBut hs₂.extBut D.l2i1).extBut hs₃.extBut D.l2TO) hy fun h₄ h2₄ hs₄ => wpAny_pure ?_)
  have hTO₄ : IsPair h₄ TO x b := hs₄.extBut _ _ D.TOi2 hTO₃
  refine wpAny_bind (wpAny_seqItems hTO₄ rfl ?_)
  refine wpAny_bind (wpAny_updateSeq_pair hTO₄ fun h₅ hTO₅ hs₅ => ?_)
  replace hTO₅ : IsPair h₅ TO x y := hTO₅
  refine wpAny_bind (wpAny_letGo (wpAny_pure (wpAny_pure ?_)))
  refine wpAny_bind (wpAny_seqItems hTO₅ rfl ?_)
  refine wpAny_bind (wpAny_newTuple ?_)
  have hsz : h₅.objs.size = s.heap.objs.size := by rw [hs₅.1, hs₄.1, hs₃.1, hs₂.1, hs₁.1]
  have hz₅ : IsZf h₅ z TI TO .ellipsis false := hs₅.extBut _ _ D.TOz.symm (hs₄.extBut _ _ D.i2z.symm (hs₃.extBut _ _ D.TOz.symm (hs₂.extBut _ _ D.i1z.symm hz₁)))
  have hk₅ : ∀ c o, c ≠ z → c ≠ TO → c ≠ i1 → c ≠ i2 → s.heap.get? c = some o → h₅.get? c = some o := fun c o c1 c2 c3 c4 e =>
    hs₅.extBut _ _ c2 (hs₄.extBut _ _ c4 (hs₃.extBut _ _ c2 (hs₂.extBut _ _ c3 (hs₁.extBut _ _ c1 e))))
  have h1₅ : h₅.IsTupleIter i1 l1 (k1 + 1) := ((h1₂.extBut hs₃.extBut D.TOi1.symm).extBut hs₄.extBut D.i12).extBut hs₅.extBut D.TOi1.symm
  have h2₅ : h₅.IsListIter i2 l2 (k2 + 1) := h2₄.extBut hs₅.extBut D.TOi2.symm
  have hzlt : z < h₅.objs.size := Heap.lt_size hz₅
  have hTOlt : TO < h₅.objs.size := Heap.lt_size hTO₅
  have hi1lt : i1 < h₅.objs.size := by obtain ⟨_, e, _⟩ := h1₅; exact Heap.lt_size e
  have hi2lt : i2 < h₅.objs.size := by obtain ⟨_, e, _⟩ := h2₅; exact Heap.lt_size e
  show wpAny _ _ (Builtin.SmallTypes.ownedTupleHandOut (.ref z) (.ref h₅.objs.size) >>= _) _ _ _
  refine wpAny_bind ?_
  unfold Builtin.SmallTypes.ownedTupleHandOut
  have hz₆ : IsZf (h₅.push { cls := .type "tuple", data := .seq #[x, y] }) z TI TO .ellipsis false := Heap.get?_push_of_some _ hz₅
  refine wpAny_bind (wpAny_setField_rec hz₆ (by simp) fun h₇ hz₇ hs₇ => ?_)
  replace hz₇ : IsZf h₇ z TI TO (rawInt h₅.objs.size) false := hz₇
  refine wpAny_setField_rec hz₇ (by simp) fun h₈ hz₈ hs₈ => ?_
  replace hz₈ : IsZf h₈ z TI TO (rawInt h₅.objs.size) false := hz₈
  have up : ∀ c o, c ≠ z → h₅.get? c = some o → h₈.get? c = some o := fun c o c1 e => hs₈.extBut _ _ c1 (hs₇.extBut _ _ c1 (Heap.get?_push_of_some _ e))
  have hT₈ : IsPair h₈ h₅.objs.size x y := hs₈.extBut _ _ (Nat.ne_of_gt hzlt) (hs₇.extBut _ _ (Nat.ne_of_gt hzlt) (Heap.get?_push_size _ rfl))
  have hz8 : h₈.objs.size = h₅.objs.size + 1 := by rw [hs₈.1, hs₇.1, Heap.size_push]
  rw [hsz] at hz₈ hT₈ hz8
  refine wpAny_pure ⟨_, rfl, ?_⟩
  show Q (.ref h₅.objs.size) _
  rw [hsz]
  exact hQ h₈ hz₈ (up _ _ D.TOz hTO₅) (h1₅.at fun o e => up _ o D.i1z e) (h2₅.at fun o e => up _ o D.i2z e) hT₈ hz8 fun c o c1 c2 c3 c4 e => up c o c1 (hk₅ c o c1 c2 c3 c4 e)


theorem alive {a : Addr} {o : Obj} {Q : Option Obj → Shared → Prop} (ho : s.heap.get? a = some o) (h : Q (some o) s) : wpAny (model prog w) A (loadIfAlive a) Q E s := by
  have h' : Q (s.heap.get? a) s := by rw [ho]; exact h
  exact fun _ _ _ => h'
theorem free_out {z TI TO T0 : Addr} {f1 : Bool} {oT : Obj} {Q : Bool → Shared → Prop} (hz : IsZf s.heap z TI TO (rawInt T0) f1) (hT0 : s.heap.get? T0 = some oT)
    (h : ∀ h', IsZf h' z TI TO (rawInt T0) true → Heap.SameBut z s.heap h' → Q false { s with heap := h' }) : wpAny (model prog w) A (Builtin.SmallTypes.ownedTupleIsFree (.ref z)) Q E s := by
  unfold Builtin.SmallTypes.ownedTupleIsFree
  refine wpAny_bind (wpAny_field hz rfl (x := rawInt T0) rfl ?_)
  show wpAny _ _ (loadIfAlive ((T0 : Int).toNat) >>= _) _ _ _
  rw [Int.toNat_natCast]
  refine wpAny_bind (alive hT0 ?_)
  simp only [Option.isNone_some, Bool.false_eq_true, if_false]
  refine wpAny_bind (wpAny_field hz rfl (x := .bool f1) rfl ?_)
  cases f1 with
  | true =>
    rw [if_neg (show ¬ ((Value.bool true != Value.bool true) = true) from Bool.false_ne_true)]
    exact wpAny_pure (h s.heap hz (Heap.SameBut.refl _ _))
  | false =>
    rw [if_pos (show (Value.bool false != Value.bool true) = true from rfl)]
    refine wpAny_bind (wpAny_setField_rec hz (by simp) fun h₃ he₃ hs₃ => ?_)
    exact wpAny_pure (h h₃ he₃ hs₃)
end
end ZL

namespace ZL
open PySem
open PySem.Sem (wp)
section
variable {prog : Program} {w : World} {A : Around} {E : Value → Shared → Prop} {s : Shared}
/-- a later item: the owned tuple is out -/
theorem next_later {z TI TO i1 i2 l1 l2 T0 : Addr} {f1 : Bool} {oT : Obj} {k1 k2 : Nat} {xs ys : Array Value} {x y : Value} {Q : Value → Shared → Prop} (D : ZipApart z TI TO i1 i2 l1 l2)
    (hz : IsZf s.heap z TI TO (rawInt T0) f1) (hT0 : s.heap.get? T0 = some oT) (hTI : IsPair s.heap TI (.ref i1) (.ref i2))
    (h1 : s.heap.IsTupleIter i1 l1 k1) (h2 : s.heap.IsListIter i2 l2 k2) (hl1 : s.heap.IsTuple l1 xs) (hl2 : s.heap.IsList l2 ys) (hx : xs[k1]? = some x) (hy : ys[k2]? = some y)
    (hQ : ∀ h', IsZf h' z TI TO (rawInt T0) true → h'.IsTupleIter i1 l1 (k1 + 1) → h'.IsListIter i2 l2 (k2 + 1) → IsPair h' s.heap.objs.size x y → h'.objs.size = s.heap.objs.size + 1 →
      (∀ c o, c ≠ z → c ≠ i1 → c ≠ i2 → s.heap.get? c = some o → h'.get? c = some o) → Q (.ref s.heap.objs.size) { s with heap := h' }) :
    wpAny (model prog w) A (Builtin.«zip.__next__» ⟨[.ref z], []⟩) (fun fin s' => ∃ v, fin = .done (.ret v) ∧ Q v s') E s := by
  show wpAny _ _ (field (.ref z) 2 >>= _) _ _ _
  refine wpAny_bind (wpAny_field hz rfl (x := .bool false) rfl ?_)
  show wpAny _ _ (field (.ref z) 3 >>= _) _ _ _
  refine wpAny_bind (wpAny_field hz rfl (x := .ref TI) rfl ?_)
  refine wpAny_bind (wpAny_seqItems hTI rfl ?_)
  show wpAny _ _ (Builtin.SmallTypes.ownedTupleIsFree (.ref z) >>= _) _ _ _
  refine wpAny_bind (free_out hz hT0 fun h₁ hz₁ hs₁ => ?_)
  simp only [Bool.false_eq_true, if_false, List.forIn_toArray, List.forIn_cons, List.forIn_nil]
  refine wpAny_bind (wpAny_bind (wpAny_bind (wpAny_holding ?_)))
  show wpAny _ _ (Builtin.SmallTypes.nextOf (.ref i1) >>= _) _ _ _
  refine wpAny_bind (RZ.nextOf_tuple_item (h1.extBut hs₁.extBut D.i1z) (hl1.extBut hs₁.extBut D.l1z) hx fun h₂ h1₂ hs₂ => wpAny_pure ?_)
  refine wpAny_pure ?_
  refine wpAny_bind (wpAny_bind (wpAny_holding ?_))
  show wpAny _ _ (Builtin.SmallTypes.nextOf (.ref i2) >>= _) _ _ _
  refine wpAny_bind (wpAny_nextOf_list_item ((h2.extBut hs₁.extBut D.i2z).extBut hs₂.extBut D.i12.symm) ((hl2.extBut hs₁.extBut D.l2z).extBut hs₂.extBut D.l2i1) hy fun h₄ h2₄ hs₄ => wpAny_pure ?_)
  refine wpAny_pure (wpAny_pure ?_)
  refine wpAny_bind (wpAny_newTuple ?_ (by show 2 ≤ sizeLine; decide))
  have hsz : h₄.objs.size = s.heap.objs.size := by rw [hs₄.1, hs₂.1, hs₁.1]
  have hz₄ : IsZf h₄ z TI TO (rawInt T0) true := hs₄.extBut _ _ D.i2z.symm (hs₂.extBut _ _ D.i1z.symm hz₁)
  have hk₄ : ∀ c o, c ≠ z → c ≠ i1 → c ≠ i2 → s.heap.get? c = some o → h₄.get? c = some o := fun c o c1 c3 c4 e =>
    hs₄.extBut _ _ c4 (hs₂.extBut _ _ c3 (hs₁.extBut _ _ c1 e))
  have h1₄ : h₄.IsTupleIter i1 l1 (k1 + 1) := h1₂.extBut hs₄.extBut D.i12
  refine wpAny_pure ⟨_, rfl, ?_⟩
  show Q (.ref h₄.objs.size) { s with heap := h₄.push { cls := .type "tuple", data := .seq #[x, y] } }
  have gT : IsPair (h₄.push { cls := .type "tuple", data := .seq #[x, y] }) h₄.objs.size x y := Heap.get?_push_size _ rfl
  have gz : (h₄.push { cls := .type "tuple", data := .seq #[x, y] }).objs.size = h₄.objs.size + 1 := Heap.size_push ..
  
  have hQ' := hQ (h₄.push { cls := .type "tuple", data := .seq #[x, y] }) (Heap.get?_push_of_some _ hz₄) (h1₄.at fun o e => Heap.get?_push_of_some _ e) (h2₄.at fun o e => Heap.get?_push_of_some _ e) (by rw [← hsz]; exact gT) (by rw [gz, hsz]) fun c o c1 c3 c4 e => Heap.get?_push_of_some _ (hk₄ c o c1 c3 c4 e)
  rw [hsz]
  exact hQ'
/-- the end, the owned tuple out -/
theorem next_end {z TI TO i1 i2 l1 l2 T0 : Addr} {f1 : Bool} {oT : Obj} {k1 : Nat} {xs : Array Value} {Q : Fin → Shared → Prop} (hh : A.handled = none) (D : ZipApart z TI TO i1 i2 l1 l2)
    (hz : IsZf s.heap z TI TO (rawInt T0) f1) (hT0 : s.heap.get? T0 = some oT) (hTI : IsPair s.heap TI (.ref i1) (.ref i2))
    (h1 : s.heap.IsTupleIter i1 l1 k1) (hl1 : s.heap.IsTuple l1 xs) (hx : xs[k1]? = none)
    (hE : ∀ h' e, (∀ c o, c ≠ z → c ≠ i1 → s.heap.get? c = some o → h'.get? c = some o) → (∃ o, h'.get? e = some o ∧ o.cls = .type "StopIteration") → E (.ref e) { s with heap := h' }) :
    wpAny (model prog w) A (Builtin.«zip.__next__» ⟨[.ref z], []⟩) Q E s := by
  show wpAny _ _ (field (.ref z) 2 >>= _) _ _ _
  refine wpAny_bind (wpAny_field hz rfl (x := .bool false) rfl ?_)
  show wpAny _ _ (field (.ref z) 3 >>= _) _ _ _
  refine wpAny_bind (wpAny_field hz rfl (x := .ref TI) rfl ?_)
  refine wpAny_bind (wpAny_seqItems hTI rfl ?_)
  show wpAny _ _ (Builtin.SmallTypes.ownedTupleIsFree (.ref z) >>= _) _ _ _
  refine wpAny_bind (free_out hz hT0 fun h₁ hz₁ hs₁ => ?_)
  simp only [Bool.false_eq_true, if_false, List.forIn_toArray, List.forIn_cons, List.forIn_nil]
  refine wpAny_bind (wpAny_bind (wpAny_bind (wpAny_holding ?_)))
  show wpAny _ _ (Builtin.SmallTypes.nextOf (.ref i1) >>= _) _ _ _
  refine wpAny_bind (RZ.nextOf_tuple_end hh (h1.extBut hs₁.extBut D.i1z) (hl1.extBut hs₁.extBut D.l1z) hx fun h₂ e hs₂ he => ?_)
  exact hE h₂ e (fun c o c1 c3 x => hs₂ _ _ c3 (hs₁.extBut _ _ c1 x)) he

theorem pyNext_first {z TI TO i1 i2 l1 l2 : Addr} {k1 k2 : Nat} {xs ys : Array Value} {x y a b : Value} {Q : Option Value → Shared → Prop} (D : ZipApart z TI TO i1 i2 l1 l2)
    (hz : IsZf s.heap z TI TO .none false) (hTI : IsPair s.heap TI (.ref i1) (.ref i2)) (hTO : IsPair s.heap TO a b)
    (h1 : s.heap.IsTupleIter i1 l1 k1) (h2 : s.heap.IsListIter i2 l2 k2) (hl1 : s.heap.IsTuple l1 xs) (hl2 : s.heap.IsList l2 ys) (hx : xs[k1]? = some x) (hy : ys[k2]? = some y)
    (hQ : ∀ h', IsZf h' z TI TO (rawInt s.heap.objs.size) false → IsPair h' TO x y → h'.IsTupleIter i1 l1 (k1 + 1) → h'.IsListIter i2 l2 (k2 + 1) → IsPair h' s.heap.objs.size x y → h'.objs.size = s.heap.objs.size + 1 →
      (∀ c o, c ≠ z → c ≠ TO → c ≠ i1 → c ≠ i2 → s.heap.get? c = some o → h'.get? c = some o) → Q (some (.ref s.heap.objs.size)) { s with heap := h' }) :
    wpAny (model prog w) A (pyNext (.ref z)) Q E s := by
  have hT : s.TypeIs (.ref z) "zip" := ⟨_, hz, rfl⟩
  unfold pyNext
  exact wpAny_bind (wpAny_attempt (wpAny_callSpecial?_slot (name := Str.ofString "__next__") hT F.slot_zip_next
    (wpAny_call_entry F.slot_zip_next hT F.entry_zip_next
      (next_first D hz hTI hTO h1 h2 hl1 hl2 hx hy fun h' a1 a2 a3 a4 a5 a6 a7 => wpAny_pure (hQ h' a1 a2 a3 a4 a5 a6 a7)) (F.args_zip_next_1 _))))
theorem pyNext_later {z TI TO i1 i2 l1 l2 T0 : Addr} {f1 : Bool} {oT : Obj} {k1 k2 : Nat} {xs ys : Array Value} {x y : Value} {Q : Option Value → Shared → Prop} (D : ZipApart z TI TO i1 i2 l1 l2)
    (hz : IsZf s.heap z TI TO (rawInt T0) f1) (hT0 : s.heap.get? T0 = some oT) (hTI : IsPair s.heap TI (.ref i1) (.ref i2))
    (h1 : s.heap.IsTupleIter i1 l1 k1) (h2 : s.heap.IsListIter i2 l2 k2) (hl1 : s.heap.IsTuple l1 xs) (hl2 : s.heap.IsList l2 ys) (hx : xs[k1]? = some x) (hy : ys[k2]? = some y)
    (hQ : ∀ h', IsZf h' z TI TO (rawInt T0) true → h'.IsTupleIter i1 l1 (k1 + 1) → h'.IsListIter i2 l2 (k2 + 1) → IsPair h' s.heap.objs.size x y → h'.objs.size = s.heap.objs.size + 1 →
      (∀ c o, c ≠ z → c ≠ i1 → c ≠ i2 → s.heap.get? c = some o → h'.get? c = some o) → Q (some (.ref s.heap.objs.size)) { s with heap := h' }) :
    wpAny (model prog w) A (pyNext (.ref z)) Q E s := by
  have hT : s.TypeIs (.ref z) "zip" := ⟨_, hz, rfl⟩
  unfold pyNext
  exact wpAny_bind (wpAny_attempt (wpAny_callSpecial?_slot (name := Str.ofString "__next__") hT F.slot_zip_next
    (wpAny_call_entry F.slot_zip_next hT F.entry_zip_next
      (next_later D hz hT0 hTI h1 h2 hl1 hl2 hx hy fun h' a1 a3 a4 a5 a6 a7 => wpAny_pure (hQ h' a1 a3 a4 a5 a6 a7)) (F.args_zip_next_1 _))))
theorem pyNext_end {z TI TO i1 i2 l1 l2 T0 : Addr} {f1 : Bool} {oT : Obj} {k1 : Nat} {xs : Array Value} {Q : Option Value → Shared → Prop} (hh : A.handled = none) (D : ZipApart z TI TO i1 i2 l1 l2)
    (hz : IsZf s.heap z TI TO (rawInt T0) f1) (hT0 : s.heap.get? T0 = some oT) (hTI : IsPair s.heap TI (.ref i1) (.ref i2))
    (h1 : s.heap.IsTupleIter i1 l1 k1) (hl1 : s.heap.IsTuple l1 xs) (hx : xs[k1]? = none)
    (hQ : ∀ h', (∀ c o, c ≠ z → c ≠ i1 → s.heap.get? c = some o → h'.get? c = some o) → Q none { s with heap := h' }) : wpAny (model prog w) A (pyNext (.ref z)) Q E s := by
  have hT : s.TypeIs (.ref z) "zip" := ⟨_, hz, rfl⟩
  unfold pyNext
  refine wpAny_bind (wpAny_attempt (wpAny_callSpecial?_slot (name := Str.ofString "__next__") hT F.slot_zip_next
    (wpAny_call_entry F.slot_zip_next hT F.entry_zip_next (next_end hh D hz hT0 hTI h1 hl1 hx fun h' e hk he => ?_) (F.args_zip_next_1 _))))
  obtain ⟨o, ho, hc⟩ := he
  refine wpAny_bind (wpAny_isInstance (T := "StopIteration") (b := true) ⟨o, ho, hc⟩ isSubtype_stop ?_)
  exact wpAny_pure (hQ _ hk)
theorem pyIter_z {z TI TO : Addr} {f0 : Value} {f1 : Bool} {Q : Value → Shared → Prop} (hz : IsZf s.heap z TI TO f0 f1) (h : Q (.ref z) s) : wpAny (model prog w) A (pyIter (.ref z)) Q E s := by
  have hT : s.TypeIs (.ref z) "zip" := ⟨_, hz, rfl⟩
  refine wpAny_pyIter_slot hT F.slot_zip_iter (wpAny_call_entry F.slot_zip_iter hT F.entry_zip_iter ?_ (F.args_zip_iter_1 _))
  show wpAny _ _ (ret (.ref z)) _ _ s
  exact wpAny_pure ⟨_, rfl, "zip", _, hT, F.slot_zip_next.lookup, h⟩
end
end ZL

namespace ZL
open PySem
open PySem.Sem (wp)
/-- the pairs made so far -/
structure GP (xs ys : Array Value) (lo : Addr) (h : Heap) (as : List Addr) : Prop where
  rise : as.Pairwise (· < ·)
  above : ∀ a ∈ as, lo < a ∧ a < h.objs.size
  pairs : ∀ (j : Nat) (a : Addr), as[j]? = some a → ∃ x y, xs[j]? = some x ∧ ys[j]? = some y ∧ IsPair h a x y
theorem GP.keep {xs ys : Array Value} {lo : Addr} {h h' : Heap} {as : List Addr} (g : GP xs ys lo h as) (hz : h.objs.size ≤ h'.objs.size) (hk : ∀ a ∈ as, ∀ o, h.get? a = some o → h'.get? a = some o) : GP xs ys lo h' as :=
  ⟨g.rise, fun a ha => ⟨(g.above a ha).1, Nat.lt_of_lt_of_le (g.above a ha).2 hz⟩, fun j a ha => let ⟨x, y, e1, e2, e3⟩ := g.pairs j a ha; ⟨x, y, e1, e2, hk a (List.mem_of_getElem? ha) _ e3⟩⟩
theorem GP.snoc {xs ys : Array Value} {lo : Addr} {h : Heap} {as : List Addr} {T : Addr} {x y : Value} (g : GP xs ys lo h as) (hT : ∀ a ∈ as, a < T) (hl : lo < T) (hx : xs[as.length]? = some x) (hy : ys[as.length]? = some y) (hp : IsPair h T x y) : GP xs ys lo h (as ++ [T]) where
  rise := List.pairwise_append.mpr ⟨g.rise, List.pairwise_singleton _ _, fun a ha b hb => by rw [List.mem_singleton.mp hb]; exact hT a ha⟩
  above := fun a ha => by
    rcases List.mem_append.mp ha with ha | ha
    · exact g.above a ha
    · rw [List.mem_singleton.mp ha]; exact ⟨hl, Heap.lt_size hp⟩
  pairs := fun j a ha => by
    by_cases hj : j < as.length
    · rw [List.getElem?_append_left hj] at ha; exact g.pairs j a ha
    · rw [List.getElem?_append_right (by omega)] at ha
      have hj0 : j = as.length := by
        have := (List.getElem?_eq_some_iff.mp ha).1
        simp at this
        omega
      subst hj0
      have : T = a := by simpa using ha
      subst this
      exact ⟨x, y, hx, hy, hp⟩
theorem ne_up {a b c : Addr} (h : a < b) (h2 : b < c) : c ≠ a := fun e => Nat.lt_irrefl _ (Nat.lt_trans h (e ▸ h2))
section
variable {prog : Program} {w : World} {A : Around} {E : Value → Shared → Prop} {R : Result → Shared → Prop}
abbrev lstO (acc : Array Value) (c : Nat) : Obj := { cls := .type "list", dict := none, data := .seq acc c, slots := #[] }

theorem loop_later {z TI TO i1 i2 l1 l2 : Addr} {xs ys : Array Value} {n : Nat} (hh : A.handled = none) (D : ZipApart z TI TO i1 i2 l1 l2) (hxn : xs.size = n) (hyn : ys.size = n) (hn : n ≤ 16777216)
    (S : Addr) (hSz : S ≠ z) (hS1 : S ≠ i1) (hS2 : S ≠ i2) (hSI : S ≠ TI) (hSl1 : S ≠ l1) (hSl2 : S ≠ l2) (hzS : z < S ∧ TI < S ∧ i1 < S ∧ i2 < S ∧ l1 < S ∧ l2 < S) (res : Value) :
    ∀ (k i : Nat) (s : Shared) (acc : Array Value) (c : Nat) (as : List Addr) (T0 : Addr) (f1 : Bool), n - i = k → i ≤ n → IsZf s.heap z TI TO (rawInt T0) f1 → T0 ∈ as → IsPair s.heap TI (.ref i1) (.ref i2) →
    s.heap.IsTupleIter i1 l1 i → s.heap.IsListIter i2 l2 i → s.heap.IsTuple l1 xs → s.heap.IsList l2 ys → s.heap.get? S = some (lstO acc c) → acc.toList = as.map Value.ref → as.length = i → GP xs ys S s.heap as →
    (∀ h' tk acc' c' as', (∀ b o, b ≠ S → b ≠ z → b ≠ i1 → b ≠ i2 → s.heap.get? b = some o → h'.get? b = some o) → h'.get? S = some (lstO acc' c') → acc'.toList = as'.map Value.ref → as'.length = n → GP xs ys S h' as' → R (.ok (.ret res)) { s with heap := h', toks := tk }) →
    codeAny (model prog w) A (.builtin "list.extend.loop" ⟨[.ref S, .ref z, res], []⟩) R s := by
  intro k
  induction k with
  | zero =>
    intro i s acc c as T0 f1 hk hi hz hT0 hTI h1 h2 hl1 hl2 hS hacc hlen hG hR
    have hin : i = n := by omega
    subst hin
    refine codeAny_builtin F.entry_extend_loop ?_
    rw [Around.under_plainId F.plain_extend_loop _]
    show wpAny _ A.in1 (pyNext (.ref z) >>= _) _ _ s
    obtain ⟨j, hj⟩ := List.mem_iff_getElem?.mp hT0
    obtain ⟨x, y, _, _, hp⟩ := hG.pairs j T0 hj
    refine wpAny_bind (pyNext_end (A := A.in1) hh D hz hp hTI h1 hl1 (by rw [Array.getElem?_eq_none (by omega)]) fun h' hk' => ?_)
    refine wpAny_pure (hR h' s.toks acc c as (fun b o _ b1 b2 _ e => hk' b o b1 b2 e) (hk' _ _ hSz hS1 hS) hacc hlen ?_)
    have hlt : ∀ a ∈ as, ∀ o, s.heap.get? a = some o → h'.get? a = some o := fun a ha o e => hk' a o (ne_up hzS.1 (hG.above a ha).1) (ne_up hzS.2.2.1 (hG.above a ha).1) e
    refine ⟨hG.rise, fun a ha => ⟨(hG.above a ha).1, ?_⟩, fun j a ha => let ⟨x, y, e1, e2, e3⟩ := hG.pairs j a ha; ⟨x, y, e1, e2, hlt a (List.mem_of_getElem? ha) _ e3⟩⟩
    obtain ⟨j, hj⟩ := List.mem_iff_getElem?.mp ha
    obtain ⟨x, y, _, _, hp⟩ := hG.pairs j a hj
    exact Heap.lt_size (hlt a ha _ hp)
  | succ k ih =>
    intro i s acc c as T0 f1 hk hi hz hT0 hTI h1 h2 hl1 hl2 hS hacc hlen hG hR
    have hlt : i < n := by omega
    refine codeAny_builtin F.entry_extend_loop ?_
    rw [Around.under_plainId F.plain_extend_loop _]
    show wpAny _ A.in1 (pyNext (.ref z) >>= _) _ _ s
    obtain ⟨j, hj⟩ := List.mem_iff_getElem?.mp hT0
    obtain ⟨x0, y0, _, _, hp⟩ := hG.pairs j T0 hj
    have hxi : xs[i]? = some (xs[i]'(by omega)) := Array.getElem?_eq_getElem _
    have hyi : ys[i]? = some (ys[i]'(by omega)) := Array.getElem?_eq_getElem _
    refine wpAny_bind (pyNext_later (A := A.in1) D hz hp hTI h1 h2 hl1 hl2 hxi hyi fun h₁ hz₁ h1₁ h2₁ hp₁ hsz₁ hk₁ => ?_)
    have hS₁ : h₁.get? S = some (lstO acc c) := hk₁ _ _ hSz hS1 hS2 hS
    have hSlt : S < s.heap.objs.size := Heap.lt_size hS
    have hab : ∀ a ∈ as, ∀ o, s.heap.get? a = some o → h₁.get? a = some o := fun a ha o e => by
      have q := (hG.above a ha).1
      exact hk₁ a o (ne_up hzS.1 q) (ne_up hzS.2.2.1 q) (ne_up hzS.2.2.2.1 q) e
    have hG₁ : GP xs ys S h₁ as := hG.keep (by omega) hab
    have hG₂ : GP xs ys S h₁ (as ++ [s.heap.objs.size]) := hG₁.snoc (fun a ha => (hG.above a ha).2) hSlt (by rw [hlen]; exact hxi) (by rw [hlen]; exact hyi) hp₁
    show wpAny _ A.in1 (updateSeq S (·.push (.ref s.heap.objs.size)) >>= _) _ _ _
    refine wpAny_bind ?_
    have hasz : acc.size = i := by have := congrArg List.length hacc; rw [List.length_map, Array.length_toList] at this; omega
    have oth : ∀ b o, b ≠ S → h₁.get? b = some o → (h₁.update S (Obj.mapSeq (·.push (Value.ref s.heap.objs.size)))).get? b = some o := fun b o hb e => (Heap.get?_update_other _ _ (Ne.symm hb)).trans e
    have hsu : (h₁.update S (Obj.mapSeq (·.push (Value.ref s.heap.objs.size)))).objs.size = h₁.objs.size := (Heap.SameBut.update ..).1
    refine wpAny_updateSeq hS₁ rfl (wpAny_pure ⟨plainId_quiet F.plain_extend_loop _, ih (i + 1) _ (acc.push (.ref s.heap.objs.size)) _ (as ++ [s.heap.objs.size]) T0 true (by omega) hlt (oth _ _ (Ne.symm hSz) hz₁) (List.mem_append_left _ hT0) (oth _ _ (Ne.symm hSI) (hk₁ _ _ D.TIz D.TIi1 D.TIi2 hTI))
      (h1₁.at fun o e => oth _ _ (Ne.symm hS1) e) (h2₁.at fun o e => oth _ _ (Ne.symm hS2) e) ((hl1.at fun o e => hk₁ _ o D.l1z D.l1i1 D.l1i2 e).at fun o e => oth _ _ (Ne.symm hSl1) e) ((hl2.at fun o e => hk₁ _ o D.l2z D.l2i1 D.l2i2 e).at fun o e => oth _ _ (Ne.symm hSl2) e)
      (Heap.get?_update_self _ hS₁ rfl) (by rw [Array.toList_push, hacc, List.map_append]; rfl) (by rw [List.length_append, hlen]; rfl)
      (hG₂.keep (Nat.le_of_eq hsu.symm) fun a ha o e => oth a o (Nat.ne_of_gt (hG₂.above a ha).1) e) fun h' tk acc' c' as' hk' hS' e1 e2 e3 => ?_⟩)
      (by rw [hasz, sizeLine_eq]; omega) (by show (acc.push _).size ≤ sizeLine + 1; rw [Array.size_push, hasz, sizeLine_eq]; omega)
    exact hR h' tk acc' c' as' (fun b o b0 b1 b2 b3 e => hk' b o b0 b1 b2 b3 (oth b o b0 (hk₁ b o b1 b2 b3 e))) hS' e1 e2 e3
end
end ZL

namespace ZL
open PySem PySem.Spec PyProof.Rows
open PySem.Sem (wp)
theorem nolen_zip : typeLookup (.type "zip") "__len__" = pure none := by rw [typeLookup_type, builtinLookup_eq_fast]; kernel_rfl
theorem nohint_zip : typeLookup (.type "zip") "__length_hint__" = pure none := by rw [typeLookup_type, builtinLookup_eq_fast]; kernel_rfl
section
variable {prog : Program} {w : World} {A : Around} {E : Value → Shared → Prop} {R : Result → Shared → Prop} {s : Shared}
theorem loop_zip {z TI TO i1 i2 l1 l2 : Addr} {xs ys : Array Value} {a b : Value} {n : Nat} (hh : A.handled = none) (D : ZipApart z TI TO i1 i2 l1 l2) (hxn : xs.size = n) (hyn : ys.size = n) (hn : n ≤ 16777216) (hn0 : 0 < n)
    (S : Addr) (hzS : z < S ∧ TI < S ∧ TO < S ∧ i1 < S ∧ i2 < S ∧ l1 < S ∧ l2 < S) (res : Value) (c : Nat)
    (hz : IsZf s.heap z TI TO .none false) (hTI : IsPair s.heap TI (.ref i1) (.ref i2)) (hTO : IsPair s.heap TO a b) (h1 : s.heap.IsTupleIter i1 l1 0) (h2 : s.heap.IsListIter i2 l2 0) (hl1 : s.heap.IsTuple l1 xs) (hl2 : s.heap.IsList l2 ys)
    (hS : s.heap.get? S = some (lstO #[] c))
    (hR : ∀ h' tk acc' c' as', (∀ b o, b ≠ S → b ≠ z → b ≠ TO → b ≠ i1 → b ≠ i2 → s.heap.get? b = some o → h'.get? b = some o) → h'.get? S = some (lstO acc' c') → acc'.toList = as'.map Value.ref → as'.length = n → GP xs ys S h' as' → R (.ok (.ret res)) { s with heap := h', toks := tk }) :
    codeAny (model prog w) A (.builtin "list.extend.loop" ⟨[.ref S, .ref z, res], []⟩) R s := by
  obtain ⟨q1, q2, q3, q4, q5, q6, q7⟩ := hzS
  refine codeAny_builtin F.entry_extend_loop ?_
  rw [Around.under_plainId F.plain_extend_loop _]
  show wpAny _ A.in1 (pyNext (.ref z) >>= _) _ _ s
  have hxi : xs[0]? = some (xs[0]'(by omega)) := Array.getElem?_eq_getElem _
  have hyi : ys[0]? = some (ys[0]'(by omega)) := Array.getElem?_eq_getElem _
  refine wpAny_bind (pyNext_first (A := A.in1) D hz hTI hTO h1 h2 hl1 hl2 hxi hyi fun h₁ hz₁ _ h1₁ h2₁ hp₁ hsz₁ hk₁ => ?_)
  have hS₁ : h₁.get? S = some (lstO #[] c) := hk₁ _ _ (Nat.ne_of_gt q1) (Nat.ne_of_gt q3) (Nat.ne_of_gt q4) (Nat.ne_of_gt q5) hS
  have hSlt : S < s.heap.objs.size := Heap.lt_size hS
  show wpAny _ A.in1 (updateSeq S (·.push (.ref s.heap.objs.size)) >>= _) _ _ _
  refine wpAny_bind ?_
  have oth : ∀ b o, b ≠ S → h₁.get? b = some o → (h₁.update S (Obj.mapSeq (·.push (Value.ref s.heap.objs.size)))).get? b = some o := fun b o hb e => (Heap.get?_update_other _ _ (Ne.symm hb)).trans e
  have hsu : (h₁.update S (Obj.mapSeq (·.push (Value.ref s.heap.objs.size)))).objs.size = h₁.objs.size := (Heap.SameBut.update ..).1
  have hG0 : GP xs ys S h₁ [] := ⟨.nil, fun a ha => (nomatch ha), fun j a ha => by simp at ha⟩
  have hG₂ : GP xs ys S h₁ ([] ++ [s.heap.objs.size]) := hG0.snoc (fun a ha => (nomatch ha)) hSlt hxi hyi hp₁
  refine wpAny_updateSeq hS₁ rfl (wpAny_pure ⟨plainId_quiet F.plain_extend_loop _, loop_later hh D hxn hyn hn S (Nat.ne_of_gt q1) (Nat.ne_of_gt q4) (Nat.ne_of_gt q5) (Nat.ne_of_gt q2) (Nat.ne_of_gt q6) (Nat.ne_of_gt q7) ⟨q1, q2, q4, q5, q6, q7⟩ res (n - 1) 1 _ ((#[] : Array Value).push (.ref s.heap.objs.size)) _ [s.heap.objs.size] s.heap.objs.size false (by omega) (by omega)
      (oth _ _ (Nat.ne_of_lt q1) hz₁) (List.mem_singleton.mpr rfl) (oth _ _ (Nat.ne_of_lt q2) (hk₁ _ _ D.TIz D.TITO D.TIi1 D.TIi2 hTI))
      (h1₁.at fun o e => oth _ _ (Nat.ne_of_lt q4) e) (h2₁.at fun o e => oth _ _ (Nat.ne_of_lt q5) e) ((hl1.at fun o e => hk₁ _ o D.l1z D.l1TO D.l1i1 D.l1i2 e).at fun o e => oth _ _ (Nat.ne_of_lt q6) e) ((hl2.at fun o e => hk₁ _ o D.l2z D.l2TO D.l2i1 D.l2i2 e).at fun o e => oth _ _ (Nat.ne_of_lt q7) e)
      (Heap.get?_update_self _ hS₁ rfl) rfl rfl
      (hG₂.keep (Nat.le_of_eq hsu.symm) fun a ha o e => oth a o (Nat.ne_of_gt (hG₂.above a ha).1) e) fun h' tk acc' c' as' hk' hS' e1 e2 e3 => ?_⟩)
      (by rw [sizeLine_eq]; exact Nat.zero_le _) (by show 1 ≤ sizeLine + 1; omega)
  exact hR h' tk acc' c' as' (fun b o b0 b1 b2 b3 b4 e => hk' b o b0 b1 b3 b4 (oth b o b0 (hk₁ b o b1 b2 b3 b4 e))) hS' e1 e2 e3
theorem extend_zip {z TI TO i1 i2 l1 l2 : Addr} {xs ys : Array Value} {a b : Value} {n : Nat} (hh : A.handled = none) (D : ZipApart z TI TO i1 i2 l1 l2) (hxn : xs.size = n) (hyn : ys.size = n) (hn : n ≤ 16777216) (hn0 : 0 < n)
    (S : Addr) (hzS : z < S ∧ TI < S ∧ TO < S ∧ i1 < S ∧ i2 < S ∧ l1 < S ∧ l2 < S) (res : Value) (c : Nat)
    (hz : IsZf s.heap z TI TO .none false) (hTI : IsPair s.heap TI (.ref i1) (.ref i2)) (hTO : IsPair s.heap TO a b) (h1 : s.heap.IsTupleIter i1 l1 0) (h2 : s.heap.IsListIter i2 l2 0) (hl1 : s.heap.IsTuple l1 xs) (hl2 : s.heap.IsList l2 ys)
    (hS : s.heap.get? S = some (lstO #[] c))
    (hR : ∀ h' tk acc' c' as', (∀ b o, b ≠ S → b ≠ z → b ≠ TO → b ≠ i1 → b ≠ i2 → s.heap.get? b = some o → h'.get? b = some o) → h'.get? S = some (lstO acc' c') → acc'.toList = as'.map Value.ref → as'.length = n → GP xs ys S h' as' → R (.ok (.ret res)) { s with heap := h', toks := tk }) :
    wpAny (model prog w) A.in1 (Builtin.List.listExtendWith (.ref S) (.ref z) res)
      (fun fin s' => match fin with | .done f => R (.ok f) s' | .again c' => c'.quiet = true ∧ codeAny (model prog w) A c' R s') (fun e s' => R (.error e) s') s := by
  have hSI : S ≠ z := Nat.ne_of_gt hzS.1
  have hT : s.TypeIs (.ref z) "zip" := ⟨_, hz, rfl⟩
  unfold Builtin.List.listExtendWith
  refine wpAny_bind (wpAny_typeOf hT ?_)
  have h1' : Builtin.List.listSameRef (.ref S) (.ref z) = false := by simp [Builtin.List.listSameRef, hSI]
  have h2' : (Value.type "zip" == Value.type "list") = false := by decide
  have h3' : (Value.type "zip" == Value.type "tuple") = false := by decide
  simp only [h1', h2', h3', Bool.or_false, Bool.false_eq_true, if_false]
  refine wpAny_bind (pyIter_z hz ?_)
  refine wpAny_bind (wpAny_holding ?_)
  unfold Builtin.List.listLengthHint
  refine wpAny_bind (wpAny_specialOf hT nolen_zip ?_)
  show wpAny _ A.in1 (specialOf (Value.ref z) (Str.ofString "__length_hint__") >>= _) _ _ _
  refine wpAny_bind (wpAny_specialOf hT nohint_zip ?_)
  refine wpAny_pure ?_
  show wpAny _ A.in1 (rule "list.extend.makes-room" >>= fun _ => Builtin.List.listTouch (.ref S) >>= fun _ =>
    again (.builtin "list.extend.loop" ⟨[.ref S, .ref z, res], []⟩)) _ _ _
  refine wpAny_bind (wpAny_rule ?_)
  refine wpAny_bind ?_
  show wpAny _ A.in1 (updateSeq S (·.push .none) >>= fun _ => updateSeq S (·.pop)) _ _ _
  refine wpAny_bind (wpAny_updateSeq hS rfl ?_)
  have hS₂ := Heap.get?_update_self (Obj.mapSeq (·.push Value.none)) hS rfl
  refine wpAny_updateSeq hS₂ rfl ?_
  have hS₃ := Heap.get?_update_self (Obj.mapSeq (·.pop)) hS₂ rfl
  have oth : ∀ b o, b ≠ S → s.heap.get? b = some o →
      ((s.heap.update S (Obj.mapSeq (·.push Value.none))).update S (Obj.mapSeq (·.pop))).get? b = some o :=
    fun b o hb e => (Heap.get?_update_other _ _ (Ne.symm hb)).trans ((Heap.get?_update_other _ _ (Ne.symm hb)).trans e)
  obtain ⟨q1, q2, q3, q4, q5, q6, q7⟩ := id hzS
  refine wpAny_pure ⟨plainId_quiet F.plain_extend_loop _, loop_zip hh D hxn hyn hn hn0 S hzS res _ (oth _ _ (Nat.ne_of_lt q1) hz) (oth _ _ (Nat.ne_of_lt q2) hTI) (oth _ _ (Nat.ne_of_lt q3) hTO)
    (h1.at fun o e => oth _ _ (Nat.ne_of_lt q4) e) (h2.at fun o e => oth _ _ (Nat.ne_of_lt q5) e) (hl1.at fun o e => oth _ _ (Nat.ne_of_lt q6) e) (hl2.at fun o e => oth _ _ (Nat.ne_of_lt q7) e) hS₃ fun h' tk acc' c' as' hk' hS' e1 e2 e3 => ?_⟩
  exact hR h' tk acc' c' as' (fun b o b0 b1 b2 b3 b4 e => hk' b o b0 b1 b2 b3 b4 (oth b o b0 e)) hS' e1 e2 e3
theorem init_zip {z TI TO i1 i2 l1 l2 : Addr} {xs ys : Array Value} {a b : Value} {n : Nat} (hh : A.handled = none) (D : ZipApart z TI TO i1 i2 l1 l2) (hxn : xs.size = n) (hyn : ys.size = n) (hn : n ≤ 16777216) (hn0 : 0 < n)
    (S : Addr) (hzS : z < S ∧ TI < S ∧ TO < S ∧ i1 < S ∧ i2 < S ∧ l1 < S ∧ l2 < S)
    (hz : IsZf s.heap z TI TO .none false) (hTI : IsPair s.heap TI (.ref i1) (.ref i2)) (hTO : IsPair s.heap TO a b) (h1 : s.heap.IsTupleIter i1 l1 0) (h2 : s.heap.IsListIter i2 l2 0) (hl1 : s.heap.IsTuple l1 xs) (hl2 : s.heap.IsList l2 ys)
    (hS : s.heap.get? S = some { cls := .type "list", data := .seq #[] })
    (hR : ∀ h' tk acc' c' as', (∀ b o, b ≠ S → b ≠ z → b ≠ TO → b ≠ i1 → b ≠ i2 → s.heap.get? b = some o → h'.get? b = some o) → h'.get? S = some (lstO acc' c') → acc'.toList = as'.map Value.ref → as'.length = n → GP xs ys S h' as' → R (.ok (.ret .none)) { s with heap := h', toks := tk }) :
    wpAny (model prog w) A.in1 (Builtin.«list.__init__» ⟨[.ref S, .ref z], []⟩)
      (fun fin s' => match fin with | .done f => R (.ok f) s' | .again c' => c'.quiet = true ∧ codeAny (model prog w) A c' R s') (fun e s' => R (.error e) s') s := by
  show wpAny _ _ (do let old ← Builtin.List.listItems (.ref S); Builtin.List.listUpdate (.ref S) (fun _ => #[]); letGo old.toList.reverse; Builtin.List.listExtendWith (.ref S) (.ref z) .none) _ _ s
  refine wpAny_bind ?_
  unfold Builtin.List.listItems
  refine wpAny_bind (wpAny_seqItems hS rfl (wpAny_pure ?_))
  show wpAny _ _ (updateSeq S (fun _ => #[]) >>= fun _ => letGo (#[] : Array Value).toList.reverse >>= fun _ => Builtin.List.listExtendWith (.ref S) (.ref z) .none) _ _ s
  refine wpAny_bind (wpAny_updateSeq hS rfl ?_)
  have hS₂ := Heap.get?_update_self (Obj.mapSeq (fun _ => (#[] : Array Value))) hS rfl
  have oth : ∀ b o, b ≠ S → s.heap.get? b = some o → (s.heap.update S (Obj.mapSeq (fun _ => (#[] : Array Value)))).get? b = some o :=
    fun b o hb e => (Heap.get?_update_other _ _ (Ne.symm hb)).trans e
  refine wpAny_bind (wpAny_letGo ?_)
  obtain ⟨q1, q2, q3, q4, q5, q6, q7⟩ := id hzS
  refine extend_zip hh D hxn hyn hn hn0 S hzS .none _ (oth _ _ (Nat.ne_of_lt q1) hz) (oth _ _ (Nat.ne_of_lt q2) hTI) (oth _ _ (Nat.ne_of_lt q3) hTO)
    (h1.at fun o e => oth _ _ (Nat.ne_of_lt q4) e) (h2.at fun o e => oth _ _ (Nat.ne_of_lt q5) e) (hl1.at fun o e => oth _ _ (Nat.ne_of_lt q6) e) (hl2.at fun o e => oth _ _ (Nat.ne_of_lt q7) e) hS₂ fun h' tk acc' c' as' hk' hS' e1 e2 e3 => ?_
  exact hR h' tk acc' c' as' (fun b o b0 b1 b2 b3 b4 e => hk' b o b0 b1 b2 b3 b4 (oth b o b0 e)) hS' e1 e2 e3
theorem call_list_zip {z TI TO i1 i2 l1 l2 : Addr} {xs ys : Array Value} {a b : Value} {n : Nat} {Q : Value → Shared → Prop} (hh : A.handled = none) (D : ZipApart z TI TO i1 i2 l1 l2) (hxn : xs.size = n) (hyn : ys.size = n) (hn : n ≤ 16777216) (hn0 : 0 < n)
    (hz : IsZf s.heap z TI TO .none false) (hTI : IsPair s.heap TI (.ref i1) (.ref i2)) (hTO : IsPair s.heap TO a b) (h1 : s.heap.IsTupleIter i1 l1 0) (h2 : s.heap.IsListIter i2 l2 0) (hl1 : s.heap.IsTuple l1 xs) (hl2 : s.heap.IsList l2 ys)
    (hQ : ∀ h' tk acc' c' as', (∀ b o, b ≠ z → b ≠ TO → b ≠ i1 → b ≠ i2 → s.heap.get? b = some o → h'.get? b = some o) → h'.get? s.heap.objs.size = some (lstO acc' c') → acc'.toList = as'.map Value.ref → as'.length = n → GP xs ys s.heap.objs.size h' as' → Q (.ref s.heap.objs.size) { s with heap := h', toks := tk }) :
    wpAny (model prog w) A (call (.type "list") [.ref z]) Q E s := by
  refine callType_codes (Q₁ := fun obj s₁ => obj = .ref s.heap.objs.size ∧ s₁ = { s with heap := s.heap.push { cls := .type "list", data := .seq #[] } }) F.called_list (F.typeCall_list_1 _) F.entry_list_init
    (code_list_new _ ⟨rfl, rfl⟩) fun obj s₁ h₁ => ?_
  obtain ⟨rfl, rfl⟩ := h₁
  have hS : (s.heap.push { cls := .type "list", data := .seq #[] }).get? s.heap.objs.size = some { cls := .type "list", data := .seq #[] } := Heap.get?_push_size _ rfl
  have up : ∀ b o, s.heap.get? b = some o → (s.heap.push { cls := .type "list", data := .seq #[] }).get? b = some o := fun b o e => Heap.get?_push_of_some _ e
  have lt : ∀ {b o}, s.heap.get? b = some o → b < s.heap.objs.size := fun e => Heap.lt_size e
  have l_i1 : i1 < s.heap.objs.size := by obtain ⟨_, e, _⟩ := h1; exact lt e
  have l_i2 : i2 < s.heap.objs.size := by obtain ⟨_, e, _⟩ := h2; exact lt e
  have l_l1 : l1 < s.heap.objs.size := by obtain ⟨_, e, _⟩ := hl1; exact lt e
  have l_l2 : l2 < s.heap.objs.size := by obtain ⟨_, e, _⟩ := hl2; exact lt e
  refine ⟨⟨_, hS, rfl⟩, F.args_list_init_2 _ _, init_zip (A := A.in1) hh D hxn hyn hn hn0 _ ⟨lt hz, lt hTI, lt hTO, l_i1, l_i2, l_l1, l_l2⟩ (up _ _ hz) (up _ _ hTI) (up _ _ hTO) (h1.at fun o e => up _ _ e) (h2.at fun o e => up _ _ e) (hl1.at fun o e => up _ _ e) (hl2.at fun o e => up _ _ e) hS fun h' tk acc' c' as' hk hS' e1 e2 e3 => ?_⟩
  exact ⟨rfl, hQ h' tk acc' c' as' (fun b o b1 b2 b3 b4 e => hk b o (Nat.ne_of_lt (lt e)) b1 b2 b3 b4 (up b o e)) hS' e1 e2 e3⟩
end
end ZL

namespace ZL
open PySem PySem.Spec PyProof.Rows L2
/-- what stands behind list(zip(..)) -/
structure Laid (xs ys : List V) (l : Addr) (ts : List Addr) (H H' : Hp) : Prop where
  ln : H l = none
  lt : H' l = some (.lst (ts.map V.ref))
  len : ts.length = xs.length
  nodup : ts.Nodup
  ne : l ∉ ts
  pair : ∀ (j : Nat) (t : Addr), ts[j]? = some t → H t = none ∧ ∃ o x y, xs[j]? = some x ∧ ys[j]? = some y ∧ o.dict = none ∧ H' t = some (.frz o (.tup [x, y]))
  rest : ∀ b, b ≠ l → b ∉ ts → H' b = H b
theorem vget' {xs : List V} {us : List Value} {i : Nat} {u : Value} (r : Vals xs us) (h : us[i]? = some u) : ∃ x, xs[i]? = some x ∧ RelV x u := by
  have hl := (List.getElem?_eq_some_iff.mp h).1
  have hx : xs[i]? = some (xs[i]'(by rw [r.length]; exact hl)) := List.getElem?_eq_getElem _
  obtain ⟨u', h1, h2⟩ := Vals.get r hx
  rw [h] at h1
  cases h1
  exact ⟨_, hx, h2⟩
section
variable {X : Cx} {pins : List (Addr × Obj)} {σ : L2.St} {H H' : Hp} {s : Shared} {h' : Heap} {tk : Nat}
theorem Inv.laidL (I : Inv X pins σ H s) (hb : ∀ b, b < s.heap.objs.size → H' b = H b) (k : ∀ b o, s.heap.get? b = some o → h'.get? b = some o)
    (new : ∀ b u, s.heap.objs.size ≤ b → H' b = some u → ObjOk X.prog X.w H' h' b u) : Inv X pins σ H' { s with heap := h', toks := tk } := by
  have lt : ∀ b u, H b = some u → b < s.heap.objs.size := fun b u e => by
    refine Nat.lt_of_not_le fun q => ?_
    rw [I.hok.fresh q] at e; cases e
  have up : ∀ b u, H b = some u → H' b = some u := fun b u e => by rw [hb b (lt b u e)]; exact e
  refine I.call' (s' := { s with heap := h', toks := tk }) (ch := []) rfl ⟨fun b o e _ _ _ => k b o e, fun b o e _ _ _ => ⟨o.slots, k b o e⟩, fun b o e n _ => ?_, fun b o e _ => ⟨o, k b o e⟩, fun b xs e => up b _ e, fun b o u e => up b _ e, fun b ps e => ⟨#[], by rw [up b _ e]; simp⟩⟩ (fun b u e => ?_) I.bare (fun b hb => nomatch hb)
  · rw [hb b (Heap.lt_size e)]; exact n
  · by_cases q : b < s.heap.objs.size
    · rw [hb b q] at e
      exact (I.hok b u e).stay (fun c v _ z => k c v z) (fun c z => up c _ z) fun c xs z => up c _ z
    · exact new b u (Nat.le_of_not_lt q) e
end
def tListZip (K : PySem.W.Frag) (ta : TA) : TE := fun σ H Q => ta σ H fun vs H1 => ∃ a b xs ys, vs = [.ref a, .ref b] ∧ SqT K H1 a xs ∧ SqL K H1 b ys ∧ xs.length = ys.length ∧ 0 < xs.length ∧ xs.length ≤ 16777216 ∧
  ∀ (l : Addr) (ts : List Addr) (H' : Hp), Laid xs ys l ts H1 H' → Q (.ref l) H'
theorem pe_listZip {X : Cx} {e e2 : Expr} {ta : TA} {p p2 pos pos2 : Pos} (hc : X.calm = true) (hgl : Gl X "list") (hml : X.mg "list" = none) (hg : Gl X "zip") (hm : X.mg "zip" = none) (ha : PA X [e, e2] ta)
    (hs : starEach [e, e2] X.env = (false, eval e X.env) :: starEach [e2] X.env := by rfl) (hpl : (backTo pos2 (starEach [e2] X.env)).any (·.1) = false := by rfl)
    (na : starEach [.Call (.Name "zip" p2) [e, e2] [] pos2] X.env = (false, eval (.Call (.Name "zip" p2) [e, e2] [] pos2) X.env) :: starEach [] X.env := by rfl) :
    PE X (.Call (.Name "list" p) [.Call (.Name "zip" p2) [e, e2] [] pos2] [] pos) (tListZip X.K ta) := by
  refine ⟨fun pins s σ H Q I h => ?_⟩
  refine Call_ (ld_blt I hgl hml boot_list (PyProof.Rows.callWith_type1 (args_cons ?_ na) na))
  refine Call_ (ld_blt I hg hm PyProof.Rows.boot_zip (PyProof.Rows.callWith_type1 (thn (ha.run pos2 pins s σ H _ I h) fun us s1 ⟨vs, H1, I1, r1, q1⟩ => ?_) hs hpl))
  obtain ⟨a, b, xs, ys, ex, hqx, hqy, hxy, h0, hn, q⟩ := q1
  subst ex
  cases r1 with
  | cons r rr =>
  cases rr with
  | cons r' rr =>
  cases rr
  cases r
  cases r'
  obtain ⟨its, rv, p1, _⟩ := I1.tuple hqx
  obtain ⟨its2, rv2, p2', _⟩ := I1.list hqy
  refine call_zip_mix (show s1.heap.IsTuple a its.toArray from p1) p2'.isList fun h' hz hTI hTO h1 h2 hsz hk => ?_
  refine args_nil ?_
  have l1 := rv.length
  have l2 := rv2.length
  have la : a < s1.heap.objs.size := by obtain ⟨_, e, _⟩ := p1; exact Heap.lt_size e
  have lb : b < s1.heap.objs.size := p2'.lt
  refine call_list_zip (n := xs.length) (I1.ok.hd hc) (PySem.W.ktu_apart s1.heap.objs.size a b la lb) (by simp; omega) (by simp; omega) hn h0 hz hTI hTO h1 h2 (Heap.IsTuple.at (show s1.heap.IsTuple a its.toArray from p1) fun o e => hk _ o e) (p2'.isList.at fun o e => hk _ o e) fun h'' tk acc c as hk2 hS e1 e2 hG => ?_
  -- the new abstract heap
  have hk3 : ∀ b o, s1.heap.get? b = some o → h''.get? b = some o := fun b o e => by
    have := Heap.lt_size e
    exact hk2 b o (Nat.ne_of_lt (Nat.lt_of_lt_of_le this (Nat.le_add_right _ _))) (Nat.ne_of_lt (Nat.lt_of_lt_of_le this (Nat.le_add_right _ _))) (Nat.ne_of_lt this) (Nat.ne_of_lt (Nat.lt_of_lt_of_le this (Nat.le_add_right _ _))) (hk b o e)
  let l := h'.objs.size
  have hle : s1.heap.objs.size ≤ h'.objs.size := by omega
  let H' : Hp := fun b => if b = l then some (.lst (as.map V.ref)) else if b ∈ as then (match xs[as.idxOf b]?, ys[as.idxOf b]?, h''.get? b with
    | some x, some y, some o => some (.frz o (.tup [x, y]))
    | _, _, _ => none) else H1 b
  have hab : ∀ t ∈ as, s1.heap.objs.size ≤ t ∧ t ≠ l := fun t ht => ⟨Nat.le_trans hle (Nat.le_of_lt (hG.above t ht).1), Nat.ne_of_gt (hG.above t ht).1⟩
  have nd : as.Nodup := hG.rise.imp fun h => Nat.ne_of_lt h
  have pr : ∀ (j : Nat) (t : Addr), as[j]? = some t → ∃ (u1 u2 : Value) (x y : V), xs[j]? = some x ∧ ys[j]? = some y ∧ RelV x u1 ∧ RelV y u2 ∧ IsPair h'' t u1 u2 ∧ H' t = some (.frz { cls := .type "tuple", data := .seq #[u1, u2] } (.tup [x, y])) := fun j t ht => by
    obtain ⟨u1, u2, w1, w2, hp⟩ := hG.pairs j t ht
    obtain ⟨x, hx, rx⟩ := vget' rv (i := j) (u := u1) (by simpa using w1)
    obtain ⟨y, hy, ry⟩ := vget' rv2 (i := j) (u := u2) (by simpa using w2)
    refine ⟨u1, u2, x, y, hx, hy, rx, ry, hp, ?_⟩
    have hm := List.mem_of_getElem? ht
    have hi : as.idxOf t = j := by
      have hlt := (List.getElem?_eq_some_iff.mp ht).1
      have e0 : as[j] = t := (List.getElem?_eq_some_iff.mp ht).2
      rw [← e0]
      exact nd.idxOf_getElem j hlt
    show (if t = l then _ else if t ∈ as then _ else _) = _
    rw [if_neg (hab t hm).2, if_pos hm, hi, hx, hy, hp]
  have hsm : ∀ b, b < s1.heap.objs.size → H' b = H1 b := fun b hb => by
    show (if b = l then _ else if b ∈ as then _ else _) = _
    rw [if_neg (Nat.ne_of_lt (Nat.lt_of_lt_of_le hb hle)), if_neg (fun z => Nat.lt_irrefl _ (Nat.lt_of_lt_of_le hb (hab b z).1))]
  have I2 : Inv X pins σ H' { s1 with heap := h'', toks := tk } := by
    refine Inv.laidL I1 hsm hk3 fun c u hcs e => ?_
    by_cases hcl : c = l
    · subst hcl
      have : H' l = some (.lst (as.map V.ref)) := if_pos rfl
      rw [this] at e
      cases e
      refine ⟨by rw [List.length_map, e2, sizeLine_eq]; omega, acc.toList, c, ?_, ?_⟩
      · rw [e1]
        clear_value H'
        clear e1 e2 hG hab nd pr hsm this
        induction as with
        | nil => exact .nil
        | cons x as ih => exact .cons rfl ih
      · rw [Array.toArray_toList]; exact hS
    · by_cases hca : c ∈ as
      · obtain ⟨j, hj⟩ := List.mem_iff_getElem?.mp hca
        obtain ⟨u1, u2, x, y, _, _, rx, ry, hp, eH⟩ := pr j c hj
        rw [eH] at e
        cases e
        exact ⟨hp, by show 2 ≤ sizeLine; decide, [u1, u2], .cons rx (.cons ry .nil), ⟨_, hp, rfl, _, rfl⟩⟩
      · have : H' c = H1 c := by
          show (if c = l then _ else if c ∈ as then _ else _) = _
          rw [if_neg hcl, if_neg hca]
        rw [this, I1.hok.fresh hcs] at e
        cases e
  refine ⟨.ref l, H', I2, rfl, q l as H' ⟨I1.hok.fresh hle, if_pos rfl, e2, nd, fun z => (hab l z).2 rfl, fun j t ht => ?_, fun b hb hb2 => ?_⟩⟩
  · obtain ⟨u1, u2, x, y, hx, hy, _, _, _, eH⟩ := pr j t ht
    exact ⟨I1.hok.fresh (hab t (List.mem_of_getElem? ht)).1, _, x, y, hx, hy, rfl, eH⟩
  · show (if b = l then _ else if b ∈ as then _ else _) = _
    rw [if_neg hb, if_neg hb2]
end ZL

/-! enumerate of a tuple -/
namespace EZ
open PySem PySem.Spec PyProof.Rows L2 PyProof
theorem meets_en (t : Addr) (o0 : Obj) (items : Array Value) :
    Meets (Builtin.«enumerate.__new__» ⟨[.type "enumerate", .ref t], []⟩) (fun _ R s => (s.heap.get? t = some o0 ∧ s.heap.IsTuple t items) ∧
      R (.ok (.ret (.ref (s.heap.push { cls := .type "tuple_iterator", data := .fields #[.ref t, .int 0 0] }).objs.size)))
        { s with heap := (s.heap.push { cls := .type "tuple_iterator", data := .fields #[.ref t, .int 0 0] }).push { cls := .type "enumerate", data := .fields #[.none, .bool false, .ref s.heap.objs.size, rawInt 0, .none, .none] } }) :=
  .of_wp fun prog w A R s h => by
    obtain ⟨hp, g, d, tk, os⟩ := s
    obtain ⟨⟨hl, hT⟩, h⟩ := h
    have hsub := sub_enumerate
    have hT' : Heap.IsTuple (Shared.heap ⟨hp, g, d, tk, os⟩) t items := hT
    wp_walk using AutoSeq1.wpAny_loadPart' hl
    refine wpAny_stack_any fun st => wpAny_pure ?_
    split
    · rename_i c _ _ _ _ _
      cases (c == Value.type "enumerate")
      · wp_walk using AutoSeq1.wpAny_loadPart' hl, wpAny_pyIter_tuple hT'
        exact ⟨_, rfl, h⟩
      · wp_walk using AutoSeq1.wpAny_loadPart' hl, wpAny_pyIter_tuple hT'
        exact ⟨_, rfl, h⟩
    · wp_walk using AutoSeq1.wpAny_loadPart' hl, wpAny_pyIter_tuple hT'
      exact ⟨_, rfl, h⟩
section
variable {prog : Program} {w : World} {A : Around} {E : Value → Shared → Prop} {s : Shared}
theorem call_en {t : Addr} {items : Array Value} {Q : Value → Shared → Prop} (hT : s.heap.IsTuple t items)
    (h : ∀ h', IsEnum h' (s.heap.objs.size + 1) s.heap.objs.size 0 .none → h'.IsTupleIter s.heap.objs.size t 0 → h'.objs.size = s.heap.objs.size + 2 →
      (∀ b o, s.heap.get? b = some o → h'.get? b = some o) → Q (.ref (s.heap.objs.size + 1)) { s with heap := h' }) :
    wpAny (model prog w) A (call (.type "enumerate") [.ref t]) Q E s := by
  obtain ⟨o0, ho0, _⟩ := id hT
  refine callType_new F.called_enumerate (by decide) (F.typeCall_enumerate_1 _) (F.newCall_enumerate_1 _) (fun obj => F.args_object_init_2 obj _) F.entry_enumerate_new
    (meets_en t o0 items) ⟨⟨ho0, hT⟩, ?_⟩
  have hz : (s.heap.push { cls := .type "tuple_iterator", data := .fields #[.ref t, .int 0 0] }).objs.size = s.heap.objs.size + 1 := Heap.size_push ..
  show _ ∧ _
  rw [hz]
  have he : IsEnum ((s.heap.push { cls := .type "tuple_iterator", data := .fields #[.ref t, .int 0 0] }).push
      { cls := .type "enumerate", data := .fields #[.none, .bool false, .ref s.heap.objs.size, rawInt 0, .none, .none] }) (s.heap.objs.size + 1) s.heap.objs.size 0 .none := by
    have := Heap.get?_push_size (s.heap.push { cls := .type "tuple_iterator", data := .fields #[.ref t, .int 0 0] })
      (o := { cls := .type "enumerate", data := .fields #[.none, .bool false, .ref s.heap.objs.size, rawInt 0, .none, .none] }) rfl
    rw [hz] at this; exact this
  refine ⟨⟨_, he, rfl⟩, h _ he ⟨_, Heap.get?_push_of_some _ (Heap.get?_push_size _ rfl), rfl, rfl⟩ (by rw [Heap.size_push, hz]) fun b o x => Heap.get?_push_of_some _ (Heap.get?_push_of_some _ x)⟩
end
/-- the tuple at a as it stands at each turn, each item in a new pair -/
def IteT (K : PySem.W.Frag) (a : Addr) : It :=
  ⟨fun i H => ∃ (xs : List V) (x : V), SqT K H a xs ∧ xs[i]? = some x, fun i H v H' => ∃ T x, v = .ref T ∧ H T = none ∧ H' = upd H T (.tup [.int (i : Nat), x]) ∧ ∀ xs, SqT K H a xs → xs[i]? = some x, fun i H => ∃ xs : List V, SqT K H a xs ∧ xs.length ≤ i⟩
theorem turn_enT {P : Program} {w : World} {K : PySem.W.Frag} {elts : List Expr} {kk : Nat} {tpos : Pos} (a e it : Addr) (hae : a ≠ e) (hai : a ≠ it) :
    Turn P w K (.Tuple elts kk tpos) (IteT K a) [e, it] e (fun i h => (∃ old, IsEnum h e it ((i : Nat) : Int) old) ∧ h.IsTupleIter it a i ∧ e ≠ it) where
  mem := by simp
  obj := fun i h st b hb => by
    obtain ⟨⟨old, he⟩, ⟨o, ho, hc, hd⟩, _⟩ := st
    have e' : b = e ∨ b = it := by simpa using hb
    rcases e' with z | z
    · rw [z]; exact ⟨_, he, fun v q => nomatch q⟩
    · rw [z]; exact ⟨o, ho, fun v q => by rw [hd] at q; cases q⟩
  keep := fun i h h' st k => let ⟨⟨old, he⟩, hi, hne⟩ := st; ⟨⟨old, k e (by simp) _ he⟩, hi.at fun o q => k it (by simp) o q, hne⟩
  item := by
    intro X hP hw hK hc i pins s σ H E I hf st hg
    subst hP hw hK
    obtain ⟨⟨old, he⟩, hit, hne⟩ := st
    obtain ⟨xs, x, hq, hx⟩ := hg
    obtain ⟨its, rv, p, hz⟩ := I.tuple hq
    obtain ⟨u, hu, ru⟩ := rv.get hx
    have hel : e < s.heap.objs.size := Heap.lt_size he
    have hil : it < s.heap.objs.size := by obtain ⟨_, q, _⟩ := hit; exact Heap.lt_size q
    have hu' : its.toArray[i]? = some u := by simpa using hu
    have hlt : i < its.toArray.size := (Array.getElem?_eq_some_iff.mp hu').1
    have D := Draws.tuple (prog := X.prog) (w := X.w) (A := X.A.in1) (I.ok.hd hc) it a hai its.toArray
    refine wpAny_pyNext_enum_itemD D he ⟨hit, (show s.heap.IsTuple a its.toArray from p)⟩ hlt hne (fun z => by simp at z; rcases z with z | z; exact hne z; exact hae z.symm) fun x' h' tk hPx ho hst' hT hsz hk => ?_
    rw [hu'] at hPx
    cases hPx
    obtain ⟨hit', _⟩ := hst'
    refine ⟨_, rfl, wpAny_letOwnedTupleGo_enum (s := { s with heap := h', toks := tk + 1 }) ho fun h'' he' sb => ?_⟩
    have hT2 : h''.get? s.heap.objs.size = some { cls := .type "tuple", data := .seq #[.int i tk, u] } := (sb.2 _ (Nat.ne_of_gt hel)).trans hT
    have new : ObjOk X.prog X.w (upd H s.heap.objs.size (.tup [.int (i : Nat), x])) h'' s.heap.objs.size (.tup [.int (i : Nat), x]) :=
      ⟨by show 2 ≤ sizeLine; decide, [.int i tk, u], .cons ⟨_, rfl⟩ (.cons ru .nil), ⟨_, hT2, rfl, _, rfl⟩⟩
    have I1 : Inv X pins σ (upd H s.heap.objs.size (.tup [.int (i : Nat), x])) { s with heap := h'', toks := tk + 1 } :=
      I.turnedNew (ch := [e, it]) (fun b ob hb q => (sb.2 b (fun z => hb (by simp [z]))).trans (hk b ob (fun z => hb (by simp [z])) (fun z => hb (by simp [z])) q)) hf (Nat.le_refl _) new
    refine ⟨.ref s.heap.objs.size, _, I1, rfl, ⟨_, x, rfl, I.hok.fresh (Nat.le_refl _), rfl, fun ys hy => by rw [I.tuple_inj hy hq]; exact hx⟩, ⟨⟨u, ?_⟩, hit'.at fun o q => (sb.2 it (Ne.symm hne)).trans q, hne⟩, fun b hb => ?_⟩
    · have e1 : ((i + 1 : Nat) : Int) = (i : Int) + 1 := by omega
      rw [e1]; exact he'
    · have hb' : b < s.heap.objs.size := by
        have e' : b = e ∨ b = it := by simpa using hb
        rcases e' with z | z
        · rw [z]; exact hel
        · rw [z]; exact hil
      rw [upd_ne (Nat.ne_of_lt hb')]
      exact (hf b hb).1
  done := by
    intro X hP hw hK hc i pins s σ H E I hf st hg
    subst hP hw hK
    obtain ⟨⟨old, he⟩, hit, hne⟩ := st
    obtain ⟨xs, hq, hx⟩ := hg
    obtain ⟨its, rv, p, hz⟩ := I.tuple hq
    obtain ⟨f0, f1, f2, f3, f4, f5⟩ := hf it (by simp)
    have hl := rv.length
    have hT : s.TypeIs (.ref e) "enumerate" := ⟨_, he, rfl⟩
    unfold pyNext
    refine wpAny_bind (wpAny_attempt (wpAny_callSpecial?_slot (name := Str.ofString "__next__") hT F.slot_enumerate_next
      (wpAny_call_entry F.slot_enumerate_next hT F.entry_enumerate_next ?_ (F.args_enumerate_next_1 _))))
    show wpAny _ _ (field (.ref e) 2 >>= _) _ _ _
    refine wpAny_bind (wpAny_field he rfl (x := .ref it) rfl ?_)
    refine wpAny_bind (RZ.nextOf_tuple_end (I.ok.hd hc) hit (show s.heap.IsTuple a its.toArray from p) (by simp; omega) fun h' x he' hx' => ?_)
    obtain ⟨o, ho, hcl⟩ := hx'
    refine wpAny_bind (wpAny_isInstance (T := "StopIteration") (b := true) ⟨o, ho, hcl⟩ isSubtype_stop ?_)
    exact wpAny_pure ⟨rfl, I.turned (t' := s.toks) (fun b o hb q => he' b o hb q) f0 f1 f3 f4 f5⟩
  self := fun A i s Q E st h => let ⟨⟨_, he⟩, _⟩ := st; wpAny_pyIter_enum he h
def iEnumA (K : PySem.W.Frag) (ta : TA) : TI := fun σ H R => ta σ H fun vs H1 => ∃ a xs, vs = [.ref a] ∧ ((SqL K H1 a xs ∧ R (Ite K a) H1) ∨ (SqT K H1 a xs ∧ R (IteT K a) H1))
theorem pi_enA {X : Cx} {e : Expr} {ta : TA} {p pos tpos : Pos} {elts : List Expr} {kk : Nat} (hg : Gl X "enumerate") (hm : X.mg "enumerate" = none) (ha : PA X [e] ta) (hs : starEach [e] X.env = [(false, eval e X.env)] := by rfl) :
    PI X (.Tuple elts kk tpos) (.Call (.Name "enumerate" p) [e] [] pos) (iEnumA X.K ta) := by
  refine ⟨fun pins s σ H R I h => ?_⟩
  refine Call_ (ld_blt I hg hm boot_enumerate (PyProof.Rows.callWith_type1 (thn (ha.run pos pins s σ H _ I h) fun us s1 ⟨vs, H1, I1, r1, q1⟩ => ?_) hs rfl))
  obtain ⟨a, xs, ex, q1⟩ := q1
  subst ex
  cases r1 with
  | cons r rr =>
    cases rr
    cases r
    have fresh : ∀ b ∈ [s1.heap.objs.size + 1, s1.heap.objs.size], FpOk X pins H1 b := fun b hb => by
      have e' : b = s1.heap.objs.size + 1 ∨ b = s1.heap.objs.size := by simpa using hb
      have hle : s1.heap.objs.size ≤ b := by
        rcases e' with z | z
        · rw [z]; exact Nat.le_add_right _ _
        · rw [z]; exact Nat.le_refl _
      exact I1.fpOk hle (I1.hok.fresh hle)
    rcases q1 with ⟨hq, q⟩ | ⟨hq, q⟩
    · obtain ⟨its, rv, p', hz⟩ := I1.list hq
      refine call_enumerate_list p'.isList fun h' he hit hsz hk => wpAny_pyIter_enum he ?_
      have I2 : Inv X pins σ H1 { s1 with heap := h' } := I1.kept (t' := s1.toks) hk
      exact ⟨s1.heap.objs.size + 1, [s1.heap.objs.size + 1, s1.heap.objs.size], _, _, H1, rfl, I2, turn_enum a (s1.heap.objs.size + 1) s1.heap.objs.size, ⟨⟨.none, he⟩, hit, Nat.succ_ne_self _⟩, fresh, q⟩
    · obtain ⟨its, rv, p', hz⟩ := I1.tuple hq
      have la : a < s1.heap.objs.size := by obtain ⟨_, e, _⟩ := p'; exact Heap.lt_size e
      refine call_en (show s1.heap.IsTuple a its.toArray from p') fun h' he hit hsz hk => wpAny_pyIter_enum he ?_
      have I2 : Inv X pins σ H1 { s1 with heap := h' } := I1.kept (t' := s1.toks) hk
      exact ⟨s1.heap.objs.size + 1, [s1.heap.objs.size + 1, s1.heap.objs.size], _, _, H1, rfl, I2, turn_enT a (s1.heap.objs.size + 1) s1.heap.objs.size (Nat.ne_of_lt (Nat.lt_succ_of_lt la)) (Nat.ne_of_lt la), ⟨⟨.none, he⟩, hit, Nat.succ_ne_self _⟩, fresh, q⟩
end EZ

namespace Fx
open PySem PySem.Spec PyProof.Rows L2

/-! ## Fx: functional readings. Values are plain data; a list or dict that a def builds is owned by one slot, all else never changes. -/
abbrev D := PyData
abbrev St := L2.St
/-- a key as data -/
def keyD : Key → D
  | .inl i => .int i
  | .inr x => .str x

/-- a tuple without a dict of its own: its object is known -/
def Plain (K : PySem.W.Frag) (S : Hp) (a : Addr) : Prop := (∃ o u, S a = some (.frz o u) ∧ o.dict = none) ∨ ∃ o, K.lookup a = some o ∧ o.dict = none
theorem Plain.mono {K : PySem.W.Frag} {S S' : Hp} {a : Addr} (h : Plain K S a) (s : Same S S') : Plain K S' a := by
  rcases h with ⟨o, u, e, d⟩ | h
  · exact .inl ⟨o, u, s _ _ e, d⟩
  · exact .inr h
mutual
/-- v stands for the data d, by what never changes (S) -/
inductive Rp (K : PySem.W.Frag) (S : Hp) : V → D → Prop
  | non : Rp K S .non .none
  | bl (b : Bool) : Rp K S (.bl b) (.bool b)
  | int (i : Int) : Rp K S (.int i) (.int i)
  | str (x : Str) : Rp K S (.str x) (.str x)
  | lst {a : Addr} {xs : List V} {ds : List D} : S a = some (.lst xs) → Rps K S xs ds → Rp K S (.ref a) (.list ds)
  /-- the script -/
  | scr {a : Addr} {xs : List V} {ds : List D} : SqL K S a xs → Rps K S xs ds → Rp K S (.ref a) (.dict [(.none, .list ds)])
  | tup {a : Addr} {xs : List V} {ds : List D} : SqT K S a xs → Plain K S a → Rps K S xs ds → Rp K S (.ref a) (.tuple ds)
  | dct {a : Addr} {kvs : List (Key × V)} {ds : List (D × D)} : S a = some (.dK kvs) → Rpd K S kvs ds → Rp K S (.ref a) (.dict ds)
inductive Rps (K : PySem.W.Frag) (S : Hp) : List V → List D → Prop
  | nil : Rps K S [] []
  | cons {v : V} {vs : List V} {d : D} {ds : List D} : Rp K S v d → Rps K S vs ds → Rps K S (v :: vs) (d :: ds)
inductive Rpd (K : PySem.W.Frag) (S : Hp) : List (Key × V) → List (D × D) → Prop
  | nil : Rpd K S [] []
  | cons {k : Key} {v : V} {vs : List (Key × V)} {d : D} {ds : List (D × D)} : Rp K S v d → Rpd K S vs ds → Rpd K S ((k, v) :: vs) ((keyD k, d) :: ds)
end

theorem Same.seqT {K : PySem.W.Frag} {H H' : Hp} {a : Addr} {xs : List V} (e : Same H H') (h : SqT K H a xs) : SqT K H' a xs := by
  rcases h with (h | ⟨o, h⟩) | h
  · exact .inl (.inl (e _ _ h))
  · exact .inl (.inr ⟨o, e _ _ h⟩)
  · exact .inr h

section
variable {K : PySem.W.Frag} {S S' : Hp}
mutual
theorem Rp.mono (h : Same S S') : ∀ {v : V} {d : D}, Rp K S v d → Rp K S' v d
  | _, _, .non => .non
  | _, _, .bl b => .bl b
  | _, _, .int i => .int i
  | _, _, .str x => .str x
  | _, _, .lst q r => .lst (h _ _ q) (Rps.mono h r)
  | _, _, .scr q r => .scr (L2.Same.seq h q) (Rps.mono h r)
  | _, _, .tup q p r => .tup (Same.seqT h q) (p.mono h) (Rps.mono h r)
  | _, _, .dct q r => .dct (h _ _ q) (Rpd.mono h r)
theorem Rps.mono (h : Same S S') : ∀ {vs : List V} {ds : List D}, Rps K S vs ds → Rps K S' vs ds
  | _, _, .nil => .nil
  | _, _, .cons r t => .cons (Rp.mono h r) (Rps.mono h t)
theorem Rpd.mono (h : Same S S') : ∀ {vs : List (Key × V)} {ds : List (D × D)}, Rpd K S vs ds → Rpd K S' vs ds
  | _, _, .nil => .nil
  | _, _, .cons r t => .cons (Rp.mono h r) (Rpd.mono h t)
end
theorem Rps.length : ∀ {vs : List V} {ds : List D}, Rps K S vs ds → vs.length = ds.length
  | _, _, .nil => rfl
  | _, _, .cons _ t => by rw [List.length_cons, List.length_cons, Rps.length t]
theorem Rps.append : ∀ {vs ws : List V} {ds es : List D}, Rps K S vs ds → Rps K S ws es → Rps K S (vs ++ ws) (ds ++ es)
  | _, _, _, _, .nil, s => s
  | _, _, _, _, .cons r t, s => .cons r (Rps.append t s)
theorem Rps.get : ∀ {vs : List V} {ds : List D} {i : Nat} {d : D}, Rps K S vs ds → ds[i]? = some d → ∃ v, vs[i]? = some v ∧ Rp K S v d
  | _, _, _, _, .nil, e => by simp at e
  | _, _, 0, _, .cons r _, e => by simp at e; subst e; exact ⟨_, rfl, r⟩
  | _, _, i + 1, _, .cons _ t, e => by
    obtain ⟨v, h1, h2⟩ := Rps.get (i := i) t (by simpa using e)
    exact ⟨v, by simpa using h1, h2⟩
theorem Rps.get' : ∀ {vs : List V} {ds : List D} {i : Nat} {v : V}, Rps K S vs ds → vs[i]? = some v → ∃ d, ds[i]? = some d ∧ Rp K S v d
  | _, _, _, _, .nil, e => by simp at e
  | _, _, 0, _, .cons r _, e => by simp at e; subst e; exact ⟨_, rfl, r⟩
  | _, _, i + 1, _, .cons _ t, e => by
    obtain ⟨v, h1, h2⟩ := Rps.get' (i := i) t (by simpa using e)
    exact ⟨v, by simpa using h1, h2⟩
theorem Rps.take : ∀ {vs : List V} {ds : List D} (n : Nat), Rps K S vs ds → Rps K S (vs.take n) (ds.take n)
  | _, _, 0, _ => .nil
  | _, _, _ + 1, .nil => .nil
  | _, _, n + 1, .cons r t => .cons r (Rps.take n t)
theorem Rps.drop : ∀ {vs : List V} {ds : List D} (n : Nat), Rps K S vs ds → Rps K S (vs.drop n) (ds.drop n)
  | _, _, 0, r => r
  | _, _, _ + 1, .nil => .nil
  | _, _, n + 1, .cons _ t => Rps.drop n t
theorem Rps.set {x : V} {d : D} (r : Rp K S x d) : ∀ {vs : List V} {ds : List D} (i : Nat), Rps K S vs ds → Rps K S (vs.set i x) (ds.set i d)
  | _, _, _, .nil => .nil
  | _, _, 0, .cons _ t => .cons r t
  | _, _, i + 1, .cons q t => .cons q (Rps.set r i t)
theorem Rps.eraseIdx : ∀ {vs : List V} {ds : List D} (i : Nat), Rps K S vs ds → Rps K S (vs.eraseIdx i) (ds.eraseIdx i)
  | _, _, _, .nil => .nil
  | _, _, 0, .cons _ t => t
  | _, _, i + 1, .cons q t => .cons q (Rps.eraseIdx i t)
theorem Rps.reverse {vs : List V} {ds : List D} (h : Rps K S vs ds) : Rps K S vs.reverse ds.reverse := by
  induction vs generalizing ds with
  | nil => cases h; exact .nil
  | cons v vs ih =>
    cases h with
    | cons r t => rw [List.reverse_cons, List.reverse_cons]; exact Rps.append (ih t) (.cons r .nil)
theorem Rps.dropLast {vs : List V} {ds : List D} (h : Rps K S vs ds) : Rps K S vs.dropLast ds.dropLast := by
  rw [List.dropLast_eq_take, List.dropLast_eq_take, h.length]
  exact h.take _
theorem Rps.ints : ∀ {vs : List V} {ns : List Int}, Rps K S vs (ns.map PyData.int) → vs = ns.map V.int
  | [], [], _ => rfl
  | [], _ :: _, h => by cases h
  | _ :: _, [], h => by cases h
  | v :: vs, n :: ns, h => by
    cases h with
    | cons r t =>
      cases r
      rw [List.map_cons, Rps.ints t]
theorem Rps.of_ints : ∀ (ns : List Int), Rps K S (ns.map V.int) (ns.map PyData.int)
  | [] => .nil
  | n :: ns => .cons (.int n) (Rps.of_ints ns)

/-! ### slots -/
inductive Sl where
  | no
  | dat (d : D)
  | own (n : Nat) (d : D)
abbrev Fs := List Sl
/-- the owned object at p -/
def OwnAt (K : PySem.W.Frag) (S H : Hp) (p : Addr) : D → Prop
  | .list ds => ∃ xs, H p = some (.lst xs) ∧ Rps K S xs ds
  | .dict ds => ∃ kvs, H p = some (.dK kvs) ∧ Rpd K S kvs ds
  | _ => False
theorem OwnAt.live {K : PySem.W.Frag} {S H : Hp} {p : Addr} {d : D} (h : OwnAt K S H p d) : ∃ o, H p = some o := by
  cases d with
  | list ds => obtain ⟨xs, e, _⟩ := h; exact ⟨_, e⟩
  | dict ds => obtain ⟨xs, e, _⟩ := h; exact ⟨_, e⟩
  | _ => exact False.elim h
theorem OwnAt.mono {K : PySem.W.Frag} {S H S' H' : Hp} {p : Addr} {d : D} (h : OwnAt K S H p d) (hs : Same S S') (k : ∀ o, H p = some o → H' p = some o) : OwnAt K S' H' p d := by
  cases d with
  | list ds => obtain ⟨xs, e, r⟩ := h; exact ⟨xs, k _ e, r.mono hs⟩
  | dict ds => obtain ⟨xs, e, r⟩ := h; exact ⟨xs, k _ e, r.mono hs⟩
  | _ => exact False.elim h

/-- the entry of a def: the owned arguments' addresses, the heap, what never changes -/
structure Inf where
  B : Nat → Option Addr
  H0 : Hp
  S0 : Hp
def Inf.bw (J : Inf) (a : Addr) : Prop := ∃ j, J.B j = some a
/-- whose: a parameter's object, or one that was made here -/
def Inf.mine (J : Inf) (p : Addr) : Nat → Prop
  | 0 => J.H0 p = none
  | j + 1 => J.B j = some p

structure Rel (K : PySem.W.Frag) (J : Inf) (σ : St) (H S : Hp) (fs : Fs) : Prop where
  sub : Same S H
  len : σ.length = fs.length
  dat : ∀ (i : Nat) (d : D), fs[i]? = some (.dat d) → ∃ v, σ[i]? = some (some v) ∧ Rp K S v d
  own : ∀ (i n : Nat) (d : D), fs[i]? = some (.own n d) → ∃ p, σ[i]? = some (some (.ref p)) ∧ OwnAt K S H p d ∧ S p = none ∧ J.mine p n
  sep : ∀ (i j n m : Nat) (d e : D) (p : Addr), fs[i]? = some (.own n d) → fs[j]? = some (.own m e) → σ[i]? = some (some (.ref p)) → σ[j]? = some (some (.ref p)) → i = j
  keep0 : ∀ a o, J.H0 a = some o → ¬ J.bw a → H a = some o
  grow0 : Same J.S0 S
  new0 : ∀ a, S a ≠ none → J.S0 a ≠ none ∨ J.H0 a = none
  live0 : ∀ a, J.H0 a ≠ none → H a ≠ none
  bwl : ∀ a, J.bw a → J.H0 a ≠ none

def Wn (σ : St) (fs : Fs) (a : Addr) : Prop := ∃ (i n : Nat) (d : D), fs[i]? = some (.own n d) ∧ σ[i]? = some (some (.ref a))
def Wz (σ : St) (fs : Fs) (a : Addr) : Prop := ∃ (i : Nat) (d : D), fs[i]? = some (.own 0 d) ∧ σ[i]? = some (some (.ref a))

structure Stp (W Z : Addr → Prop) (H S H' S' : Hp) : Prop where
  keep : ∀ a o, H a = some o → ¬ W a → H' a = some o
  grow : Same S S'
  new : ∀ a, S' a ≠ none → S a ≠ none ∨ H a = none ∨ Z a
  live : ∀ a, H a ≠ none → H' a ≠ none
theorem Stp.refl {W Z : Addr → Prop} {H S : Hp} : Stp W Z H S H S := ⟨fun _ _ h _ => h, Same.refl _, fun _ h => .inl h, fun _ h => h⟩
theorem Stp.trans {W Z W1 Z1 : Addr → Prop} {H S H1 S1 H2 S2 : Hp} (a : Stp W Z H S H1 S1) (b : Stp W1 Z1 H1 S1 H2 S2) (hw : ∀ x, W1 x → W x ∨ H x = none) (hz : ∀ x, Z1 x → Z x ∨ H x = none) : Stp W Z H S H2 S2 where
  keep := fun x o e nw => b.keep x o (a.keep x o e nw) fun z => (hw x z).elim nw fun q => by rw [q] at e; cases e
  grow := a.grow.trans b.grow
  new := fun x h => by
    rcases b.new x h with q | q | q
    · exact a.new x q
    · refine .inr (.inl ?_)
      cases e : H x with
      | none => rfl
      | some o => exact absurd q (a.live x (by rw [e]; simp))
    · rcases hz x q with q | q
      · exact .inr (.inr q)
      · exact .inr (.inl q)
  live := fun x h => b.live x (a.live x h)
theorem Stp.weak {W Z W' Z' : Addr → Prop} {H S H' S' : Hp} (a : Stp W Z H S H' S') (hw : ∀ x, W x → W' x) (hz : ∀ x, Z x → Z' x) : Stp W' Z' H S H' S' :=
  ⟨fun x o e n => a.keep x o e fun q => n (hw x q), a.grow, fun x h => (a.new x h).imp id fun q => q.imp id (hz x), a.live⟩
theorem Stp.none {W Z : Addr → Prop} {H S H' S' : Hp} (a : Stp W Z H S H' S') {x : Addr} (h : H' x = Option.none) : H x = Option.none := by
  cases e : H x with
  | none => rfl
  | some o => exact absurd h (a.live x (by rw [e]; simp))

/-- slots only lose what they own -/
def Shr (fs fs' : Fs) : Prop := ∀ (i n : Nat) (d' : D), fs'[i]? = some (.own n d') → ∃ d, fs[i]? = some (.own n d)
theorem Shr.refl (fs : Fs) : Shr fs fs := fun _ _ d h => ⟨d, h⟩
theorem Shr.trans {a b c : Fs} (x : Shr a b) (y : Shr b c) : Shr a c := fun i n d h => let ⟨_, h1⟩ := y i n d h; x i n _ h1
theorem Shr.wn {σ : St} {fs fs' : Fs} (x : Shr fs fs') {a : Addr} (h : Wn σ fs' a) : Wn σ fs a := by
  obtain ⟨i, n, d, h1, h2⟩ := h
  obtain ⟨d', h3⟩ := x i n d h1
  exact ⟨i, n, d', h3, h2⟩
theorem Shr.wz {σ : St} {fs fs' : Fs} (x : Shr fs fs') {a : Addr} (h : Wz σ fs' a) : Wz σ fs a := by
  obtain ⟨i, d, h1, h2⟩ := h
  obtain ⟨d', h3⟩ := x i 0 d h1
  exact ⟨i, d', h3, h2⟩
theorem Shr.set {fs : Fs} {i : Nat} {s : Sl} (h : ∀ n d', s = .own n d' → ∃ d, fs[i]? = some (.own n d)) : Shr fs (fs.set i s) := fun j n d' e => by
  by_cases hj : i = j
  · subst hj
    by_cases hl : i < fs.length
    · rw [List.getElem?_set_self hl] at e
      exact h n d' (Option.some.inj e)
    · rw [List.getElem?_eq_none (by simpa using hl)] at e; cases e
  · rw [List.getElem?_set_ne hj] at e
    exact ⟨d', e⟩
end

section
variable {K : PySem.W.Frag} {J : Inf} {σ : St} {H S H' S' : Hp} {fs fs' : Fs}
/-- the entry's facts go on -/
theorem Rel.step (R : Rel K J σ H S fs) (st : Stp (Wn σ fs) (Wz σ fs) H S H' S') (sub : Same S' H') (len : σ.length = fs'.length)
    (dat : ∀ (i : Nat) (d : D), fs'[i]? = some (.dat d) → ∃ v, σ[i]? = some (some v) ∧ Rp K S' v d)
    (own : ∀ (i n : Nat) (d : D), fs'[i]? = some (.own n d) → ∃ p, σ[i]? = some (some (.ref p)) ∧ OwnAt K S' H' p d ∧ S' p = none) (sh : Shr fs fs') : Rel K J σ H' S' fs' where
  sub := sub
  len := len
  dat := dat
  own := fun i n d e => by
    obtain ⟨p, h1, h2, h3⟩ := own i n d e
    obtain ⟨d0, e0⟩ := sh i n d e
    obtain ⟨p', q1, _, _, q4⟩ := R.own i n d0 e0
    rw [h1] at q1
    cases q1
    exact ⟨p, h1, h2, h3, q4⟩
  sep := fun i j n m d e p h1 h2 h3 h4 => by
    obtain ⟨d0, e0⟩ := sh i n d h1
    obtain ⟨d1, e1⟩ := sh j m e h2
    exact R.sep i j n m d0 d1 p e0 e1 h3 h4
  keep0 := fun a o e nb => st.keep a o (R.keep0 a o e nb) fun ⟨i, n, d, h1, h2⟩ => by
    obtain ⟨p, q1, _, _, q4⟩ := R.own i n d h1
    rw [h2] at q1
    cases q1
    cases n with
    | zero => rw [show J.H0 a = none from q4] at e; cases e
    | succ j => exact nb ⟨j, q4⟩
  grow0 := R.grow0.trans st.grow
  new0 := fun a h => by
    rcases st.new a h with q | q | q
    · exact R.new0 a q
    · refine .inr ?_
      cases e : J.H0 a with
      | none => rfl
      | some o => exact absurd q (R.live0 a (by rw [e]; simp))
    · obtain ⟨i, d, h1, h2⟩ := q
      obtain ⟨p, q1, _, _, q4⟩ := R.own i 0 d h1
      rw [h2] at q1
      cases q1
      exact .inr q4
  live0 := fun a h => st.live a (R.live0 a h)
  bwl := R.bwl
theorem Rel.wn_live (R : Rel K J σ H S fs) {a : Addr} (h : Wn σ fs a) : ∃ o, H a = some o := by
  obtain ⟨i, n, d, h1, h2⟩ := h
  obtain ⟨p, q1, q2, _⟩ := R.own i n d h1
  rw [h2] at q1
  cases q1
  exact q2.live
theorem Rel.wn_out (R : Rel K J σ H S fs) {a : Addr} (h : Wn σ fs a) : S a = none := by
  obtain ⟨i, n, d, h1, h2⟩ := h
  obtain ⟨p, q1, _, q3, _⟩ := R.own i n d h1
  rw [h2] at q1
  cases q1
  exact q3
/-- the same slots, a heap that only grew -/
theorem Rel.grown (R : Rel K J σ H S fs) (st : Stp (fun _ => False) (fun _ => False) H S H' S') (sub : Same S' H') : Rel K J σ H' S' fs :=
  R.step (st.weak (fun _ h => h.elim) fun _ h => h.elim) sub R.len (fun i d e => let ⟨v, h1, h2⟩ := R.dat i d e; ⟨v, h1, h2.mono st.grow⟩)
    (fun i n d e => by
      obtain ⟨p, h1, h2, h3, _⟩ := R.own i n d e
      refine ⟨p, h1, h2.mono st.grow fun o q => st.keep p o q fun z => z.elim, ?_⟩
      cases q : S' p with
      | none => rfl
      | some o =>
        rcases st.new p (by rw [q]; simp) with z | z | z
        · exact absurd h3 z
        · obtain ⟨o', z'⟩ := h2.live
          rw [z] at z'; cases z'
        · exact z.elim) (Shr.refl _)
/-- a new object that is not S's -/
theorem stp_newH {p : Addr} {o : HO} (hp : H p = none) : Stp (fun _ => False) (fun _ => False) H S (upd H p o) S where
  keep := fun a u e _ => by rw [upd_ne (ne_of_none e hp)]; exact e
  grow := Same.refl _
  new := fun _ h => .inl h
  live := fun a h => by
    by_cases e : a = p
    · subst e; rw [upd_same]; simp
    · rw [upd_ne e]; exact h
theorem same_newH {p : Addr} {o : HO} (hp : H p = none) (sub : Same S H) : Same S (upd H p o) := fun a u e => by
  rw [upd_ne (ne_of_none (sub _ _ e) hp)]; exact sub _ _ e
/-- a new object that S has -/
theorem stp_newS {p : Addr} {o : HO} (hp : H p = none) (sub : Same S H) : Stp (fun _ => False) (fun _ => False) H S (upd H p o) (upd S p o) where
  keep := fun a u e _ => by rw [upd_ne (ne_of_none e hp)]; exact e
  grow := fun a u e => by rw [upd_ne (ne_of_none (sub _ _ e) hp)]; exact e
  new := fun a h => by
    by_cases e : a = p
    · subst e; exact .inr (.inl hp)
    · rw [upd_ne e] at h; exact .inl h
  live := fun a h => by
    by_cases e : a = p
    · subst e; rw [upd_same]; simp
    · rw [upd_ne e]; exact h
theorem same_newS {p : Addr} {o : HO} (hp : H p = none) (sub : Same S H) : Same (upd S p o) (upd H p o) := fun a u e => by
  by_cases q : a = p
  · subst q; rw [upd_same] at e ⊢; exact e
  · rw [upd_ne q] at e ⊢; exact sub _ _ e

/-! ### what an expression gives -/
inductive Rv where
  | val (d : D)
  | slot (i : Nat)
  | fresh (d : D)
/-- Hs: the heap at the expression's start -/
def RvR (K : PySem.W.Frag) (σ : St) (fs : Fs) (Hs H S : Hp) (v : V) : Rv → Prop
  | .val d => Rp K S v d
  | .slot i => σ[i]? = some (some v)
  | .fresh d => ∃ p, v = .ref p ∧ OwnAt K S H p d ∧ S p = none ∧ Hs p = none ∧ ¬ Wn σ fs p
def Sl.rd : Sl → Option D
  | .no => none
  | .dat d => some d
  | .own _ d => some d
def Rv.rd (fs : Fs) : Rv → Option D
  | .val d => some d
  | .slot i => (fs[i]?).bind Sl.rd
  | .fresh d => some d
/-- v may be read as d just now -/
def RpB (K : PySem.W.Frag) (S H : Hp) (v : V) : D → Prop
  | .list ds => ∃ a xs, v = .ref a ∧ H a = some (.lst xs) ∧ Rps K S xs ds
  | .dict ds => (∃ a kvs, v = .ref a ∧ H a = some (.dK kvs) ∧ Rpd K S kvs ds) ∨ ∃ a xs es, v = .ref a ∧ ds = [(.none, .list es)] ∧ SqL K H a xs ∧ Rps K S xs es
  | d => Rp K S v d
theorem Rp.b (sub : Same S H) {v : V} {d : D} (h : Rp K S v d) : RpB K S H v d := by
  cases h with
  | lst q r => exact ⟨_, _, rfl, sub _ _ q, r⟩
  | dct q r => exact .inl ⟨_, _, rfl, sub _ _ q, r⟩
  | scr q r => exact .inr ⟨_, _, _, rfl, rfl, L2.Same.seq sub q, r⟩
  | non => exact .non
  | bl b => exact .bl b
  | int i => exact .int i
  | str x => exact .str x
  | tup q p r => exact .tup q p r
theorem OwnAt.b {p : Addr} {d : D} (h : OwnAt K S H p d) : RpB K S H (.ref p) d := by
  cases d with
  | list ds => obtain ⟨xs, e, r⟩ := h; exact ⟨p, xs, rfl, e, r⟩
  | dict ds => obtain ⟨xs, e, r⟩ := h; exact .inl ⟨p, xs, rfl, e, r⟩
  | _ => exact False.elim h
theorem RvR.rd (R : Rel K J σ H S fs) {Hs : Hp} {v : V} {rv : Rv} {d : D} (h : RvR K σ fs Hs H S v rv) (e : rv.rd fs = some d) : RpB K S H v d := by
  cases rv with
  | val d' => cases e; exact Rp.b R.sub h
  | slot i =>
    have h' : σ[i]? = some (some v) := h
    cases q : fs[i]? with
    | none => rw [Rv.rd, q] at e; cases e
    | some s =>
      rw [Rv.rd, q] at e
      cases s with
      | no => cases e
      | dat d' =>
        cases e
        obtain ⟨v', h1, h2⟩ := R.dat i _ q
        rw [h'] at h1; cases h1
        exact Rp.b R.sub h2
      | own n d' =>
        cases e
        obtain ⟨p, h1, h2, _⟩ := R.own i n _ q
        rw [h'] at h1; cases h1
        exact h2.b
  | fresh d' =>
    cases e
    obtain ⟨p, rfl, h2, _⟩ := h
    exact h2.b
/-- what was read stands while more is evaluated -/
theorem RvR.later {Hs H1 S1 : Hp} {fs1 : Fs} {v : V} {rv : Rv} (h : RvR K σ fs Hs H S v rv) (st : Stp (Wn σ fs) (Wz σ fs) H S H1 S1) (sh : Shr fs fs1) : RvR K σ fs1 Hs H1 S1 v rv := by
  cases rv with
  | val d => exact Rp.mono st.grow h
  | slot i => exact h
  | fresh d =>
    obtain ⟨p, e, h1, h2, h3, h4⟩ := h
    refine ⟨p, e, h1.mono st.grow fun o q => st.keep p o q h4, ?_, h3, fun z => h4 (sh.wn z)⟩
    cases q : S1 p with
    | none => rfl
    | some o =>
      rcases st.new p (by rw [q]; simp) with z | z | z
      · exact absurd h2 z
      · obtain ⟨o', z'⟩ := h1.live
        rw [z] at z'; cases z'
      · obtain ⟨i, d', z1, z2⟩ := z
        exact absurd ⟨i, 0, d', z1, z2⟩ h4
/-- the start may be taken earlier -/
theorem RvR.early {Hs Hs' : Hp} {v : V} {rv : Rv} (h : RvR K σ fs Hs H S v rv) (l : ∀ a, Hs a = none → Hs' a = none) : RvR K σ fs Hs' H S v rv := by
  cases rv with
  | val d => exact h
  | slot i => exact h
  | fresh d =>
    obtain ⟨p, e, h1, h2, h3, h4⟩ := h
    exact ⟨p, e, h1, h2, l p h3, h4⟩

/-! ### freezing -/
/-- the value for good: an owned object is never changed any more -/
def Rv.fz (fs : Fs) : Rv → Option (D × Fs)
  | .val d => some (d, fs)
  | .fresh d => some (d, fs)
  | .slot i => match fs[i]? with
    | some (.dat d) => some (d, fs)
    | some (.own 0 d) => some (d, fs.set i (.dat d))
    | _ => none
theorem own_rp {p : Addr} {d : D} {o : HO} (h : OwnAt K S H p d) (e : H p = some o) (hn : S p = none) : Rp K (upd S p o) (.ref p) d := by
  have g : Same S (upd S p o) := fun a u q => by rw [upd_ne (ne_of_none q hn)]; exact q
  cases d with
  | list ds =>
    obtain ⟨xs, e', r⟩ := h
    rw [e] at e'; cases e'
    exact .lst upd_same (r.mono g)
  | dict ds =>
    obtain ⟨xs, e', r⟩ := h
    rw [e] at e'; cases e'
    exact .dct upd_same (r.mono g)
  | _ => exact False.elim h
theorem stp_fz {p : Addr} {o : HO} (e : H p = some o) (hn : S p = none) : Stp (fun _ => False) (fun a => a = p) H S H (upd S p o) where
  keep := fun _ _ q _ => q
  grow := fun a u q => by rw [upd_ne (ne_of_none q hn)]; exact q
  new := fun a h => by
    by_cases q : a = p
    · exact .inr (.inr q)
    · rw [upd_ne q] at h; exact .inl h
  live := fun _ h => h
theorem same_fz {p : Addr} {o : HO} (e : H p = some o) (sub : Same S H) : Same (upd S p o) H := fun a u q => by
  by_cases z : a = p
  · subst z; rw [upd_same] at q; cases q; exact e
  · rw [upd_ne z] at q; exact sub _ _ q
/-- st: from the start of it all -/
theorem RvR.fz {σ : St} {Hs Ss : Hp} {fss : Fs} (R : Rel K J σ H S fs) {v : V} {rv : Rv} {d : D} {fs' : Fs} (h : RvR K σ fs Hs H S v rv) (e : rv.fz fs = some (d, fs')) (R0 : Rel K J σ Hs Ss fss)
    (st : Stp (Wn σ fss) (Wz σ fss) Hs Ss H S) (sh : Shr fss fs) : ∃ S', Rel K J σ H S' fs' ∧ Stp (Wn σ fss) (Wz σ fss) Hs Ss H S' ∧ Shr fss fs' ∧ Rp K S' v d ∧ Stp (fun _ => False) (fun a => Wz σ fs a ∨ (Hs a = none ∧ S a = none ∧ ¬ Wn σ fs a)) H S H S' := by
  cases rv with
  | val d' => cases e; exact ⟨S, R, st, sh, h, Stp.refl⟩
  | fresh d' =>
    cases e
    obtain ⟨p, rfl, h1, h2, h3, h4⟩ := h
    obtain ⟨o, ho⟩ := h1.live
    have z := stp_fz (S := S) ho h2
    have st' := st.trans z (fun x q => q.elim) fun x q => .inr (by rw [q]; exact h3)
    refine ⟨upd S p o, ?_, st', sh, own_rp h1 ho h2, z.weak (fun _ q => q) fun x q => .inr (by rw [q]; exact ⟨h3, h2, h4⟩)⟩
    have r1 : Same (upd S p o) H := same_fz ho R.sub
    refine R0.step st' r1 R.len (fun i d e => let ⟨v, q1, q2⟩ := R.dat i d e; ⟨v, q1, q2.mono z.grow⟩) (fun i n d e => ?_) sh
    obtain ⟨q, q1, q2, q3, _⟩ := R.own i n d e
    refine ⟨q, q1, q2.mono z.grow fun _ x => x, ?_⟩
    have ne : q ≠ p := fun w => h4 ⟨i, n, d, e, by rw [← w]; exact q1⟩
    rw [upd_ne ne]
    exact q3
  | slot i =>
    have h' : σ[i]? = some (some v) := h
    simp only [Rv.fz] at e
    split at e
    · rename_i d' q
      cases e
      obtain ⟨v', h1, h2⟩ := R.dat i _ q
      rw [h'] at h1; cases h1
      exact ⟨S, R, st, sh, h2, Stp.refl⟩
    · rename_i d' q
      cases e
      obtain ⟨p, h1, h2, h3, h4⟩ := R.own i 0 _ q
      rw [h'] at h1; cases h1
      obtain ⟨o, ho⟩ := h2.live
      have z := stp_fz (S := S) ho h3
      have sh' : Shr fs (fs.set i (.dat d)) := Shr.set fun n d' z => by cases z
      have st' := st.trans z (fun x w => w.elim) fun x w => .inl (sh.wz ⟨i, d, q, by rw [w]; exact h'⟩)
      refine ⟨upd S p o, ?_, st', sh.trans sh', own_rp h2 ho h3, z.weak (fun _ q => q) fun x w => .inl ⟨i, d, q, by rw [w]; exact h'⟩⟩
      refine R0.step st' (same_fz ho R.sub) (by rw [List.length_set]; exact R.len) (fun j d2 e => ?_) (fun j n d2 e => ?_) (sh.trans sh')
      · by_cases hj : i = j
        · subst hj
          have hl : i < fs.length := (List.getElem?_eq_some_iff.mp q).1
          rw [List.getElem?_set_self hl] at e
          cases e
          exact ⟨_, h', own_rp h2 ho h3⟩
        · rw [List.getElem?_set_ne hj] at e
          obtain ⟨v, q1, q2⟩ := R.dat j d2 e
          exact ⟨v, q1, q2.mono z.grow⟩
      · by_cases hj : i = j
        · subst hj
          have hl : i < fs.length := (List.getElem?_eq_some_iff.mp q).1
          rw [List.getElem?_set_self hl] at e
          cases e
        · rw [List.getElem?_set_ne hj] at e
          obtain ⟨p2, q1, q2, q3, _⟩ := R.own j n d2 e
          refine ⟨p2, q1, q2.mono z.grow fun _ x => x, ?_⟩
          have ne : p2 ≠ p := fun w => hj (R.sep i j 0 n d d2 p q e h' (by rw [← w]; exact q1))
          rw [upd_ne ne]
          exact q3
    · cases e
end
end Fx

namespace Fx
open PySem PySem.Spec PyProof.Rows L2
/-! ### the monad: slots, an own error (by its class's name) or a value; none: not told -/
abbrev Cls := Str
abbrev M (α : Type) := Fs → Option ((Cls ⊕ α) × Fs)
def bnd {α β : Type} (f : M α) (g : α → M β) : M β := fun fs => match f fs with
  | none => none
  | some (.inl c, fs1) => some (.inl c, fs1)
  | some (.inr a, fs1) => g a fs1
def rt {α : Type} (a : α) : M α := fun fs => some (.inr a, fs)
def opt {α : Type} (o : Option α) : M α := fun fs => match o with
  | none => none
  | some a => some (.inr a, fs)
abbrev RT (β α : Type) := St → Fs → Hp → Hp → Hp → β → α → Prop
class Early {β α : Type} (R : RT β α) : Prop where
  early : ∀ {σ : St} {fs : Fs} {Hs Hs' H S : Hp} {b : β} {a : α}, (∀ x, Hs x = none → Hs' x = none) → R σ fs Hs H S b a → R σ fs Hs' H S b a
def PostE {β α : Type} (K : PySem.W.Frag) (J : Inf) (mg : Str → Option Value) (W : WX) (R : RT β α) (Q : β → Hp → Prop) (σ : St) (fs : Fs) (H S : Hp) (res : Cls ⊕ α) (fs' : Fs) : Prop :=
  ∀ H' S', Rel K J σ H' S' fs' → Stp (Wn σ fs) (Wz σ fs) H S H' S' → Shr fs fs' → match res with
    | .inl c => ∀ C, mg c = some (.ref C) → W (.ref C) none σ H'
    | .inr a => ∀ b, R σ fs' H H' S' b a → Q b H'
def Sim {β α : Type} (K : PySem.W.Frag) (J : Inf) (mg : Str → Option Value) (W : WX) (t : St → Hp → (β → Hp → Prop) → Prop) (R : RT β α) (f : M α) : Prop :=
  ∀ (σ : St) (H S : Hp) (fs : Fs) (Q : β → Hp → Prop) (res : Cls ⊕ α) (fs' : Fs), Rel K J σ H S fs → f fs = some (res, fs') → PostE K J mg W R Q σ fs H S res fs' → t σ H Q
section
variable {β α β' γ : Type} {K : PySem.W.Frag} {J : Inf} {mg : Str → Option Value} {W : WX} {σ : St} {fs fs' fs1 : Fs} {H S H1 S1 : Hp}
theorem Stp.seq {H2 S2 : Hp} (a : Stp (Wn σ fs) (Wz σ fs) H S H1 S1) (sh : Shr fs fs1) (b : Stp (Wn σ fs1) (Wz σ fs1) H1 S1 H2 S2) : Stp (Wn σ fs) (Wz σ fs) H S H2 S2 :=
  a.trans b (fun x h => .inl (sh.wn h)) fun x h => .inl (sh.wz h)
theorem Stp.calm {H2 S2 : Hp} (b : Stp (fun _ => False) (fun _ => False) H S H2 S2) : Stp (Wn σ fs) (Wz σ fs) H S H2 S2 := b.weak (fun _ z => z.elim) fun _ z => z.elim
theorem PostE.next {R' : RT β' γ} [Early R'] {Q' : β' → Hp → Prop} {res : Cls ⊕ γ} (p : PostE K J mg W R' Q' σ fs H S res fs') (st : Stp (Wn σ fs) (Wz σ fs) H S H1 S1) (sh : Shr fs fs1) : PostE K J mg W R' Q' σ fs1 H1 S1 res fs' := by
  intro H' S' R2 st2 sh2
  have st' := st.trans st2 (fun x h => .inl (sh.wn h)) fun x h => .inl (sh.wz h)
  have z := p H' S' R2 st' (sh.trans sh2)
  cases res with
  | inl c => exact z
  | inr a => exact fun b r => z b (Early.early (fun x e => st.none e) r)
theorem Sim.bind {t : St → Hp → (β → Hp → Prop) → Prop} {R : RT β α} {R' : RT β' γ} [Early R'] {f : M α} {g : α → M γ} {Q : β → Hp → Prop} {Q' : β' → Hp → Prop} {res : Cls ⊕ γ}
    (h : Sim K J mg W t R f) (rel : Rel K J σ H S fs) (e : bnd f g fs = some (res, fs')) (post : PostE K J mg W R' Q' σ fs H S res fs')
    (k : ∀ a fs1 b H1 S1, Rel K J σ H1 S1 fs1 → R σ fs1 H H1 S1 b a → g a fs1 = some (res, fs') → PostE K J mg W R' Q' σ fs1 H1 S1 res fs' → Stp (Wn σ fs) (Wz σ fs) H S H1 S1 → Shr fs fs1 → Q b H1) : t σ H Q := by
  unfold bnd at e
  split at e
  · cases e
  · rename_i c fs1 q
    cases e
    exact h σ H S fs Q _ _ rel q fun H' S' R2 st sh => post H' S' R2 st sh
  · rename_i a fs1 q
    exact h σ H S fs Q _ fs1 rel q fun H' S' R2 st sh b r => k a fs1 b H' S' R2 r e (post.next st sh) st sh
/-- nothing is done -/
theorem PostE.here {R : RT β α} {Q : β → Hp → Prop} {a : α} (p : PostE K J mg W R Q σ fs H S (.inr a) fs) (rel : Rel K J σ H S fs) {b : β} (r : R σ fs H H S b a) : Q b H := p H S rel Stp.refl (Shr.refl _) b r
end

abbrev rV (K : PySem.W.Frag) : RT V Rv := fun σ fs Hs H S v rv => RvR K σ fs Hs H S v rv
instance {K : PySem.W.Frag} : Early (rV K) := ⟨fun l r => RvR.early r l⟩
abbrev rB : RT Bool Bool := fun _ _ _ _ _ b a => b = a
instance : Early rB := ⟨fun _ r => r⟩
inductive RvsR (K : PySem.W.Frag) (σ : St) (fs : Fs) (Hs H S : Hp) : List V → List Rv → Prop
  | nil : RvsR K σ fs Hs H S [] []
  | cons {v : V} {vs : List V} {r : Rv} {rs : List Rv} : RvR K σ fs Hs H S v r → RvsR K σ fs Hs H S vs rs → RvsR K σ fs Hs H S (v :: vs) (r :: rs)
theorem RvsR.early {K : PySem.W.Frag} {σ : St} {fs : Fs} {Hs Hs' H S : Hp} (l : ∀ x, Hs x = none → Hs' x = none) : ∀ {vs : List V} {rs : List Rv}, RvsR K σ fs Hs H S vs rs → RvsR K σ fs Hs' H S vs rs
  | _, _, .nil => .nil
  | _, _, .cons r t => .cons (r.early l) (RvsR.early l t)
abbrev rVs (K : PySem.W.Frag) : RT (List V) (List Rv) := fun σ fs Hs H S v rv => RvsR K σ fs Hs H S v rv
instance {K : PySem.W.Frag} : Early (rVs K) := ⟨fun l r => RvsR.early l r⟩

def FE (X : Cx) (J : Inf) (W : WX) (e : Expr) (f : M Rv) : Prop := ∃ t, PE X e t ∧ Sim X.K J X.mg W t (rV X.K) f
def FT (X : Cx) (J : Inf) (W : WX) (e : Expr) (f : M Bool) : Prop := ∃ t, PT X e t ∧ Sim X.K J X.mg W t rB f
def FW (X : Cx) (J : Inf) (W : WX) (e : Expr) (f : M Bool) : Prop := ∃ t, PW X e t ∧ Sim X.K J X.mg W t rB f
def FA (X : Cx) (J : Inf) (W : WX) (es : List Expr) (f : M (List Rv)) : Prop := ∃ t, PA X es t ∧ Sim X.K J X.mg W t (rVs X.K) f

/-! ### names, constants -/
def fVar (i : Nat) : M Rv := fun fs => match fs[i]? with
  | some (.dat d) => some (.inr (.val d), fs)
  | some (.own _ _) => some (.inr (.slot i), fs)
  | _ => none
def fVal (d : D) : M Rv := fun fs => some (.inr (.val d), fs)
section
variable {X : Cx} {J : Inf} {W : WX} {a b c : Expr} {es : List Expr} {f g h : M Rv} {pos : Pos}
theorem sim_val {K : PySem.W.Frag} {mg : Str → Option Value} {v : V} {d : D} (r : ∀ S, Rp K S v d) : Sim K J mg W (tC v) (rV K) (fVal d) := by
  intro σ H S fs Q res fs' R e p
  cases e
  exact p.here R (r S)
theorem fe_var (i : Nat) {x : Str} (hN : X.N[i]? = some x := by rfl) (hv : Vis X.env.scope x := by first | exact Or.inl rfl | exact Or.inr (Or.inl rfl) | exact Or.inr (Or.inr rfl)) (hd : (x == ("__debug__" : Str)) = false := by decide)
    (hcd : (x == ("__classdict__" : Str)) = false := by decide) : FE X J W (.Name x pos) (fVar i) := by
  refine ⟨_, pe_var hN hv hd hcd, fun σ H S fs Q res fs' R e p => ?_⟩
  unfold fVar at e
  split at e
  · rename_i d q
    cases e
    obtain ⟨v, h1, h2⟩ := R.dat i d q
    exact ⟨v, h1, p.here R h2⟩
  · rename_i n d q
    cases e
    obtain ⟨v, h1, h2⟩ := R.own i n d q
    exact ⟨_, h1, p.here R h1⟩
  · cases e
theorem fe_int {i : Int} {j} : FE X J W (.Constant (.int i) j pos) (fVal (.int i)) := ⟨_, pe_int, sim_val fun _ => .int i⟩
theorem fe_bl {i : Bool} {j} : FE X J W (.Constant (.bool i) j pos) (fVal (.bool i)) := ⟨_, pe_bl, sim_val fun _ => .bl i⟩
theorem fe_non {j} : FE X J W (.Constant .none j pos) (fVal .none) := ⟨_, pe_non, sim_val fun _ => .non⟩
theorem fe_str {x : Str} {j} : FE X J W (.Constant (.str x) j pos) (fVal (.str x)) := ⟨_, pe_str, sim_val fun _ => .str x⟩
/-- a constant of the module -/
theorem fe_glob {x : Str} {v : V} {u : Value} {d : D} (hg : Gl X x) (hm : X.mg x = some u) (r : RelV v u) (rd : ∀ S, Rp X.K S v d) (hd : (x == ("__debug__" : Str)) = false := by decide) : FE X J W (.Name x pos) (fVal d) :=
  ⟨_, pe_glob hg hm r hd, sim_val rd⟩

/-! ### operations by values -/
/-- what is wanted behind an operation on values -/
def PostV (X : Cx) (J : Inf) (σ : St) (fs : Fs) (H S : Hp) (rv : Rv) (Q : VK) : Prop :=
  ∀ H' S', Rel X.K J σ H' S' fs → Stp (fun _ => False) (fun _ => False) H S H' S' → ∀ v, RvR X.K σ fs H H' S' v rv → Q v H'
def Op2 (X : Cx) (r : R2) (h : D → D → Option Rv) : Prop :=
  ∀ (J : Inf) (σ : St) (fs : Fs) (H S : Hp) (x y : V) (d e : D) (rv : Rv) (Q : VK), Rel X.K J σ H S fs → RpB X.K S H x d → RpB X.K S H y e → h d e = some rv → PostV X J σ fs H S rv Q → r x y H Q
def Op1 (X : Cx) (r : V → Hp → VK → Prop) (h : D → Option Rv) : Prop :=
  ∀ (J : Inf) (σ : St) (fs : Fs) (H S : Hp) (x : V) (d : D) (rv : Rv) (Q : VK), Rel X.K J σ H S fs → RpB X.K S H x d → h d = some rv → PostV X J σ fs H S rv Q → r x H Q
inductive RpBs (K : PySem.W.Frag) (S H : Hp) : List V → List D → Prop
  | nil : RpBs K S H [] []
  | cons {v : V} {vs : List V} {d : D} {ds : List D} : RpB K S H v d → RpBs K S H vs ds → RpBs K S H (v :: vs) (d :: ds)
def OpN (X : Cx) (r : List V → Hp → VK → Prop) (h : List D → Option Rv) : Prop :=
  ∀ (J : Inf) (σ : St) (fs : Fs) (H S : Hp) (xs : List V) (ds : List D) (rv : Rv) (Q : VK), Rel X.K J σ H S fs → RpBs X.K S H xs ds → h ds = some rv → PostV X J σ fs H S rv Q → r xs H Q
theorem PostE.toV {σ : St} {fs : Fs} {H S : Hp} {rv : Rv} {Q : VK} (p : PostE X.K J X.mg W (rV X.K) Q σ fs H S (.inr rv) fs) : PostV X J σ fs H S rv Q :=
  fun H' S' R st v r => p H' S' R (st.weak (fun _ z => z.elim) fun _ z => z.elim) (Shr.refl _) v r
/-- a scalar comes, nothing else -/
theorem PostV.here {σ : St} {fs : Fs} {H S : Hp} {rv : Rv} {Q : VK} (p : PostV X J σ fs H S rv Q) (R : Rel X.K J σ H S fs) {v : V} (r : RvR X.K σ fs H H S v rv) : Q v H := p H S R Stp.refl v r
/-- a new list -/
theorem PostV.newL {σ : St} {fs : Fs} {H S : Hp} {Q : VK} {xs : List V} {ds : List D} (p : PostV X J σ fs H S (.fresh (.list ds)) Q) (R : Rel X.K J σ H S fs) (r : Rps X.K S xs ds) {l : Addr} (hl : H l = none) : Q (.ref l) (upd H l (.lst xs)) := by
  have st := stp_newH (S := S) (o := .lst xs) hl
  refine p _ _ (R.grown st (same_newH hl R.sub)) st _ ⟨l, rfl, ⟨xs, upd_same, r⟩, ?_, hl, fun z => ?_⟩
  · cases e : S l with
    | none => rfl
    | some o => rw [R.sub _ _ e] at hl; cases hl
  · obtain ⟨o, e⟩ := R.wn_live z
    rw [hl] at e; cases e
theorem rp_newT {K : PySem.W.Frag} {S H : Hp} {xs : List V} {ds : List D} {o : Obj} (hd : o.dict = none) (sub : Same S H) (r : Rps K S xs ds) {l : Addr} (hl : H l = none) : Rp K (upd S l (.frz o (.tup xs))) (.ref l) (.tuple ds) :=
  .tup (.inl (.inr ⟨o, upd_same⟩)) (.inl ⟨o, _, upd_same, hd⟩) (r.mono fun a u e => by rw [upd_ne (ne_of_none (sub _ _ e) hl)]; exact e)
/-- a new tuple -/
theorem PostV.newT {σ : St} {fs : Fs} {H S : Hp} {Q : VK} {xs : List V} {ds : List D} (p : PostV X J σ fs H S (.val (.tuple ds)) Q) (R : Rel X.K J σ H S fs) (r : Rps X.K S xs ds) {l : Addr} (hl : H l = none) {o : Obj} (hd : o.dict = none) : Q (.ref l) (upd H l (.frz o (.tup xs))) := by
  have st := stp_newS (o := .frz o (.tup xs)) hl R.sub
  exact p _ _ (R.grown st (same_newS hl R.sub)) st _ (rp_newT hd R.sub r hl)

/-! ### binary operators, comparisons -/
def rd2 (h : D → D → Option Rv) (x y : Rv) : M Rv := fun fs => match x.rd fs, y.rd fs with
  | some d, some e => match h d e with
    | some rv => some (.inr rv, fs)
    | none => none
  | _, _ => none
def rd1 (h : D → Option Rv) (x : Rv) : M Rv := fun fs => match x.rd fs with
  | some d => match h d with
    | some rv => some (.inr rv, fs)
    | none => none
  | _ => none
def fBin (h : D → D → Option Rv) (f g : M Rv) : M Rv := bnd f fun x => bnd g fun y => rd2 h x y
def fUn (h : D → Option Rv) (f : M Rv) : M Rv := bnd f fun x => rd1 h x
theorem rd2_run {o : R2} {h : D → D → Option Rv} (ho : Op2 X o h) {σ : St} {fs fs' : Fs} {H S : Hp} {x y : V} {rx ry : Rv} {res : Cls ⊕ Rv} {Q : VK} {Hs Hs' : Hp} (R : Rel X.K J σ H S fs) (r1 : RvR X.K σ fs Hs H S x rx) (r2 : RvR X.K σ fs Hs' H S y ry)
    (e : rd2 h rx ry fs = some (res, fs')) (p : PostE X.K J X.mg W (rV X.K) Q σ fs H S res fs') : o x y H Q := by
  unfold rd2 at e
  split at e
  · rename_i d e' q1 q2
    split at e
    · rename_i rv q3
      cases e
      exact ho J σ fs H S x y d e' rv Q R (r1.rd R q1) (r2.rd R q2) q3 p.toV
    · cases e
  · cases e
theorem rd1_run {o : V → Hp → VK → Prop} {h : D → Option Rv} (ho : Op1 X o h) {σ : St} {fs fs' : Fs} {H S : Hp} {x : V} {rx : Rv} {res : Cls ⊕ Rv} {Q : VK} {Hs : Hp} (R : Rel X.K J σ H S fs) (r1 : RvR X.K σ fs Hs H S x rx)
    (e : rd1 h rx fs = some (res, fs')) (p : PostE X.K J X.mg W (rV X.K) Q σ fs H S res fs') : o x H Q := by
  unfold rd1 at e
  split at e
  · rename_i d q1
    split at e
    · rename_i rv q3
      cases e
      exact ho J σ fs H S x d rv Q R (r1.rd R q1) q3 p.toV
    · cases e
  · cases e
theorem sim_op2 {ta tb : TE} {o : R2} {h : D → D → Option Rv} (ho : Op2 X o h) (sa : Sim X.K J X.mg W ta (rV X.K) f) (sb : Sim X.K J X.mg W tb (rV X.K) g) : Sim X.K J X.mg W (tOp o ta tb) (rV X.K) (fBin h f g) := by
  intro σ H S fs Q res fs' R e p
  refine sa.bind R e p fun rx fs1 x H1 S1 R1 r1 e1 p1 st1 sh1 => ?_
  refine sb.bind R1 e1 p1 fun ry fs2 y H2 S2 R2 r2 e2 p2 st2 sh2 => ?_
  exact rd2_run ho R2 (r1.later st2 sh2) r2 e2 p2
theorem sim_op1 {ta : TE} {o : V → Hp → VK → Prop} {h : D → Option Rv} (ho : Op1 X o h) (sa : Sim X.K J X.mg W ta (rV X.K) f) : Sim X.K J X.mg W (tUn o ta) (rV X.K) (fUn h f) := by
  intro σ H S fs Q res fs' R e p
  refine sa.bind R e p fun rx fs1 x H1 S1 R1 r1 e1 p1 st1 sh1 => ?_
  exact rd1_run ho R1 r1 e1 p1
theorem fe_op {op : Operator} {o : R2} {h : D → D → Option Rv} (hr : OpR X (binaryOp op) o) (ho : Op2 X o h) (ha : FE X J W a f) (hb : FE X J W b g) : FE X J W (.BinOp a op b pos) (fBin h f g) := by
  obtain ⟨ta, pa, sa⟩ := ha
  obtain ⟨tb, pb, sb⟩ := hb
  exact ⟨_, pe_op hr pa pb, sim_op2 ho sa sb⟩
theorem fe_un {op : UnaryOp} {o : V → Hp → VK → Prop} {h : D → Option Rv} (hr : UnR X (unaryOp op) o) (ho : Op1 X o h) (ha : FE X J W a f) : FE X J W (.UnaryOp op a pos) (fUn h f) := by
  obtain ⟨ta, pa, sa⟩ := ha
  exact ⟨_, pe_un hr pa, sim_op1 ho sa⟩
theorem fe_cmp {op : CmpOp} {o : R2} {h : D → D → Option Rv} (hr : OpR X (compareOp op) o) (ho : Op2 X o h) (hm : behindInMarks op b = false) (ha : FE X J W a f) (hb : FE X J W b g) : FE X J W (.Compare a [op] [b] pos) (fBin h f g) := by
  obtain ⟨ta, pa, sa⟩ := ha
  obtain ⟨tb, pb, sb⟩ := hb
  exact ⟨_, pe_cmpR hr pa pb hm, sim_op2 ho sa sb⟩
/-- a value that is a truth, as a test -/
def toB : Rv → M Bool := fun r fs => match r with
  | .val (.bool b) => some (.inr b, fs)
  | _ => none
def fB (f : M Rv) : M Bool := bnd f toB
theorem toB_run {K : PySem.W.Frag} {mg : Str → Option Value} {σ : St} {fs fs' : Fs} {H S Hs : Hp} {x : V} {rx : Rv} {res : Cls ⊕ Bool} {Q : Bool → Hp → Prop} (R : Rel K J σ H S fs) (r1 : RvR K σ fs Hs H S x rx) (e : toB rx fs = some (res, fs')) (p : PostE K J mg W rB Q σ fs H S res fs') : ∃ k, x = .bl k ∧ Q k H := by
  unfold toB at e
  split at e
  · rename_i b
    cases e
    have r : Rp K S x (.bool b) := r1
    cases r
    exact ⟨b, rfl, p.here R rfl⟩
  · cases e
theorem ft_cmp {op : CmpOp} {o : R2} {h : D → D → Option Rv} (hr : OpR X (compareOp op) o) (ho : Op2 X o h) (hm : behindInMarks op b = false) (ha : FE X J W a f) (hb : FE X J W b g) : FT X J W (.Compare a [op] [b] pos) (fB (fBin h f g)) := by
  obtain ⟨ta, pa, sa⟩ := ha
  obtain ⟨tb, pb, sb⟩ := hb
  refine ⟨_, pt_cmpR hr pa pb hm, fun σ H S fs Q res fs' R e p => ?_⟩
  exact (sim_op2 ho sa sb).bind R e p fun rx fs1 x H1 S1 R1 r1 e1 p1 _ _ => toB_run R1 r1 e1 p1
theorem ft_val (ha : FE X J W a f) (he : ∀ whole, isTrue a X.env whole = (do let v ← whole; standAt a.pos; holding [v] (truthy v)) := by intro _; rfl) : FT X J W a (fB f) := by
  obtain ⟨ta, pa, sa⟩ := ha
  refine ⟨_, pt_val pa he, fun σ H S fs Q res fs' R e p => ?_⟩
  exact sa.bind R e p fun rx fs1 x H1 S1 R1 r1 e1 p1 _ _ => toB_run R1 r1 e1 p1
/-! ### and, or, not as tests -/
def fAnd (f g : M Bool) : M Bool := bnd f fun b => match b with
  | true => g
  | false => rt false
def fOr (f g : M Bool) : M Bool := bnd f fun b => match b with
  | true => rt true
  | false => g
def fNot (f : M Bool) : M Bool := bnd f fun b => rt (!b)
variable {u v : M Bool} {rest : List Expr}
theorem fw_and1 (ha : FT X J W a u) : FW X J W (.BoolOp .And [a] pos) u := let ⟨t, p, s⟩ := ha; ⟨t, pw_and1 p, s⟩
theorem fw_or1 (ha : FT X J W a u) : FW X J W (.BoolOp .Or [a] pos) u := let ⟨t, p, s⟩ := ha; ⟨t, pw_or1 p, s⟩
theorem fw_and (ha : FT X J W a u) (hb : FW X J W (.BoolOp .And (b :: rest) pos) v) : FW X J W (.BoolOp .And (a :: b :: rest) pos) (fAnd u v) := by
  obtain ⟨ta, pa, sa⟩ := ha
  obtain ⟨tb, pb, sb⟩ := hb
  refine ⟨_, pw_and pa pb, fun σ H S fs Q res fs' R e p => ?_⟩
  refine sa.bind R e p fun k fs1 k' H1 S1 R1 r1 e1 p1 _ _ => ?_
  cases r1
  cases k with
  | true =>
    rw [if_pos rfl]
    exact sb σ H1 S1 fs1 Q res fs' R1 e1 p1
  | false =>
    rw [if_neg Bool.false_ne_true]
    cases e1
    exact p1.here R1 rfl
theorem fw_or (ha : FT X J W a u) (hb : FW X J W (.BoolOp .Or (b :: rest) pos) v) : FW X J W (.BoolOp .Or (a :: b :: rest) pos) (fOr u v) := by
  obtain ⟨ta, pa, sa⟩ := ha
  obtain ⟨tb, pb, sb⟩ := hb
  refine ⟨_, pw_or pa pb, fun σ H S fs Q res fs' R e p => ?_⟩
  refine sa.bind R e p fun k fs1 k' H1 S1 R1 r1 e1 p1 _ _ => ?_
  cases r1
  cases k with
  | false =>
    rw [if_neg Bool.false_ne_true]
    exact sb σ H1 S1 fs1 Q res fs' R1 e1 p1
  | true =>
    rw [if_pos rfl]
    cases e1
    exact p1.here R1 rfl
theorem FW.ft (h : FW X J W a u) : FT X J W a u := let ⟨t, p, s⟩ := h; ⟨t, p.pt, s⟩
theorem ft_not (ha : FT X J W a u) : FT X J W (.UnaryOp .Not a pos) (fNot u) := by
  obtain ⟨ta, pa, sa⟩ := ha
  refine ⟨_, pt_not pa, fun σ H S fs Q res fs' R e p => ?_⟩
  refine sa.bind R e p fun k fs1 k' H1 S1 R1 r1 e1 p1 _ _ => ?_
  cases r1
  cases e1
  exact p1.here R1 rfl
/-! ### .. as values -/
def fAndV (f g : M Rv) : M Rv := bnd (fB f) fun b => match b with
  | true => g
  | false => fVal (.bool false)
def fOrV (f g : M Rv) : M Rv := bnd (fB f) fun b => match b with
  | true => fVal (.bool true)
  | false => g
def fNotV (f : M Rv) : M Rv := bnd (fB f) fun b => fVal (.bool !b)
theorem sim_fB {K : PySem.W.Frag} {mg : Str → Option Value} {ta : TE} (sa : Sim K J mg W ta (rV K) f) : Sim K J mg W (fun σ H Q => ta σ H fun x H1 => ∃ c, x = .bl c ∧ Q c H1) rB (fB f) := by
  intro σ H S fs Q res fs' R e p
  exact sa.bind R e p fun rx fs1 x H1 S1 R1 r1 e1 p1 _ _ => toB_run R1 r1 e1 p1
theorem tB_use {ta : TE} {K : PySem.W.Frag} {mg : Str → Option Value} (sa : Sim K J mg W ta (rV K) f) {g : Bool → M Rv} {σ : St} {H S : Hp} {fs fs' : Fs} {Q : VK} {res : Cls ⊕ Rv} {A : Bool → Hp → Prop} (R : Rel K J σ H S fs) (e : bnd (fB f) g fs = some (res, fs')) (p : PostE K J mg W (rV K) Q σ fs H S res fs')
    (k : ∀ (b : Bool) fs1 H1 S1, Rel K J σ H1 S1 fs1 → g b fs1 = some (res, fs') → PostE K J mg W (rV K) Q σ fs1 H1 S1 res fs' → A b H1) : ta σ H fun x H1 => ∃ c, x = .bl c ∧ A c H1 :=
  (sim_fB sa).bind (Q := A) R e p fun b fs1 b' H1 S1 R1 r1 e1 p1 _ _ => by cases r1; exact k b fs1 H1 S1 R1 e1 p1
theorem fe_one {op} (ha : FE X J W a f) : FE X J W (.BoolOp op [a] pos) f := let ⟨t, p, s⟩ := ha; ⟨t, pe_one p, s⟩
theorem fe_and (ha : FE X J W a f) (hb : FE X J W (.BoolOp .And (b :: rest) pos) g) : FE X J W (.BoolOp .And (a :: b :: rest) pos) (fAndV f g) := by
  obtain ⟨ta, pa, sa⟩ := ha
  obtain ⟨tb, pb, sb⟩ := hb
  refine ⟨_, pe_and pa pb, fun σ H S fs Q res fs' R e p => ?_⟩
  refine tB_use sa R e p fun k fs1 H1 S1 R1 e1 p1 => ?_
  cases k with
  | true =>
    rw [if_pos rfl]
    exact sb σ H1 S1 fs1 Q res fs' R1 e1 p1
  | false =>
    rw [if_neg Bool.false_ne_true]
    cases e1
    exact p1.here R1 (Rp.bl false)
theorem fe_or (ha : FE X J W a f) (hb : FE X J W (.BoolOp .Or (b :: rest) pos) g) : FE X J W (.BoolOp .Or (a :: b :: rest) pos) (fOrV f g) := by
  obtain ⟨ta, pa, sa⟩ := ha
  obtain ⟨tb, pb, sb⟩ := hb
  refine ⟨_, pe_or pa pb, fun σ H S fs Q res fs' R e p => ?_⟩
  refine tB_use sa R e p fun k fs1 H1 S1 R1 e1 p1 => ?_
  cases k with
  | false =>
    rw [if_neg Bool.false_ne_true]
    exact sb σ H1 S1 fs1 Q res fs' R1 e1 p1
  | true =>
    rw [if_pos rfl]
    cases e1
    exact p1.here R1 (Rp.bl true)
theorem fe_not (ha : FE X J W a f) : FE X J W (.UnaryOp .Not a pos) (fNotV f) := by
  obtain ⟨ta, pa, sa⟩ := ha
  refine ⟨_, pe_not pa, fun σ H S fs Q res fs' R e p => ?_⟩
  refine tB_use (A := fun c H1 => Q (.bl (!c)) H1) sa R e p fun k fs1 H1 S1 R1 e1 p1 => ?_
  cases e1
  exact p1.here R1 (Rp.bl _)
/-! ### a < b <= c -/
def fChain (h h' : D → D → Option Rv) (f g k : M Rv) : M Rv := bnd f fun x => bnd g fun y => fun fs => match x.rd fs, y.rd fs with
  | some d, some e => match h d e with
    | some (.val (.bool true)) => bnd k (fun z => rd2 h' y z) fs
    | some (.val (.bool false)) => some (.inr (.val (.bool false)), fs)
    | _ => none
  | _, _ => none
theorem fe_chain {op op' : CmpOp} {o o' : R2} {h h' : D → D → Option Rv} {k : M Rv} (hr : OpR X (compareOp op) o) (ho : Op2 X o h) (hr' : OpR X (compareOp op') o') (ho' : Op2 X o' h') (ha : FE X J W a f) (hb : FE X J W b g) (hc : FE X J W c k)
    (hm : lastMarks [op, op'] [b, c] = false := by with_unfolding_all rfl) : FE X J W (.Compare a [op, op'] [b, c] pos) (fChain h h' f g k) := by
  obtain ⟨ta, pa, sa⟩ := ha
  obtain ⟨tb, pb, sb⟩ := hb
  obtain ⟨tc, pc, sc⟩ := hc
  refine ⟨_, pe_chain hr hr' pa pb pc hm, fun σ H S fs Q res fs' R e p => ?_⟩
  refine sa.bind R e p fun rx fs1 x H1 S1 R1 r1 e1 p1 st1 sh1 => ?_
  refine sb.bind R1 e1 p1 fun ry fs2 y H2 S2 R2 r2 e2 p2 st2 sh2 => ?_
  have r1' := r1.later st2 sh2
  split at e2
  · rename_i d e' q1 q2
    split at e2
    · rename_i q3
      refine ho J σ fs2 H2 S2 x y d e' _ _ R2 (r1'.rd R2 q1) (r2.rd R2 q2) q3 fun H3 S3 R3 st3 v rv => ?_
      cases (show Rp X.K S3 v (.bool true) from rv)
      refine ⟨true, rfl, ?_⟩
      rw [if_pos rfl]
      have st3' : Stp (Wn σ fs2) (Wz σ fs2) H2 S2 H3 S3 := st3.weak (fun _ z => z.elim) fun _ z => z.elim
      refine sc.bind R3 e2 (p2.next st3' (Shr.refl _)) fun rz fs4 z H4 S4 R4 r4 e4 p4 st4 sh4 => ?_
      exact rd2_run ho' R4 ((r2.later st3' (Shr.refl _)).later st4 sh4) r4 e4 p4
    · rename_i q3
      cases e2
      refine ho J σ _ H2 S2 x y d e' _ _ R2 (r1'.rd R2 q1) (r2.rd R2 q2) q3 fun H3 S3 R3 st3 v rv => ?_
      cases (show Rp X.K S3 v (.bool false) from rv)
      refine ⟨false, rfl, ?_⟩
      rw [if_neg Bool.false_ne_true]
      exact (p2.next (st3.weak (fun _ z => z.elim) fun _ z => z.elim) (Shr.refl _)).here R3 (Rp.bl false)
    · cases e2
  · cases e2
theorem ft_chain {op op' : CmpOp} {o o' : R2} {h h' : D → D → Option Rv} {k : M Rv} (hr : OpR X (compareOp op) o) (ho : Op2 X o h) (hr' : OpR X (compareOp op') o') (ho' : Op2 X o' h') (ha : FE X J W a f) (hb : FE X J W b g) (hc : FE X J W c k)
    (hm : lastMarks [op, op'] [b, c] = false := by with_unfolding_all rfl) : FT X J W (.Compare a [op, op'] [b, c] pos) (fB (fChain h h' f g k)) := by
  obtain ⟨ta, pa, sa⟩ := ha
  obtain ⟨tb, pb, sb⟩ := hb
  obtain ⟨tc, pc, sc⟩ := hc
  refine ⟨_, pt_chain hr hr' pa pb pc hm, fun σ H S fs Q res fs' R e p => ?_⟩
  have key : Sim X.K J X.mg W (tChain o o' ta tb tc) (rV X.K) (fChain h h' f g k) := by
    intro σ H S fs Q res fs' R e p
    refine sa.bind R e p fun rx fs1 x H1 S1 R1 r1 e1 p1 st1 sh1 => ?_
    refine sb.bind R1 e1 p1 fun ry fs2 y H2 S2 R2 r2 e2 p2 st2 sh2 => ?_
    have r1' := r1.later st2 sh2
    split at e2
    · rename_i d e' q1 q2
      split at e2
      · rename_i q3
        refine ho J σ fs2 H2 S2 x y d e' _ _ R2 (r1'.rd R2 q1) (r2.rd R2 q2) q3 fun H3 S3 R3 st3 v rv => ?_
        cases (show Rp X.K S3 v (.bool true) from rv)
        refine ⟨true, rfl, ?_⟩
        rw [if_pos rfl]
        have st3' : Stp (Wn σ fs2) (Wz σ fs2) H2 S2 H3 S3 := st3.weak (fun _ z => z.elim) fun _ z => z.elim
        refine sc.bind R3 e2 (p2.next st3' (Shr.refl _)) fun rz fs4 z H4 S4 R4 r4 e4 p4 st4 sh4 => ?_
        exact rd2_run ho' R4 ((r2.later st3' (Shr.refl _)).later st4 sh4) r4 e4 p4
      · rename_i q3
        cases e2
        refine ho J σ _ H2 S2 x y d e' _ _ R2 (r1'.rd R2 q1) (r2.rd R2 q2) q3 fun H3 S3 R3 st3 v rv => ?_
        cases (show Rp X.K S3 v (.bool false) from rv)
        refine ⟨false, rfl, ?_⟩
        rw [if_neg Bool.false_ne_true]
        exact (p2.next (st3.weak (fun _ z => z.elim) fun _ z => z.elim) (Shr.refl _)).here R3 (Rp.bl false)
      · cases e2
    · cases e2
  exact key.bind R e p fun rx fs1 x H1 S1 R1 r1 e1 p1 _ _ => toB_run R1 r1 e1 p1

/-! ### displays, arguments -/
def fNil : M (List Rv) := rt []
def fCons (f : M Rv) (g : M (List Rv)) : M (List Rv) := bnd f fun x => bnd g fun xs => rt (x :: xs)
theorem fa_nil : FA X J W [] fNil := ⟨_, pa_nil, fun σ H S fs Q res fs' R e p => by cases e; exact p.here R .nil⟩
theorem fa_cons {gs : M (List Rv)} (ha : FE X J W a f) (hr : FA X J W es gs) (hs : starEach (a :: es) X.env = (false, eval a X.env) :: starEach es X.env := by rfl) : FA X J W (a :: es) (fCons f gs) := by
  obtain ⟨ta, pa, sa⟩ := ha
  obtain ⟨tb, pb, sb⟩ := hr
  refine ⟨_, pa_cons pa pb hs, fun σ H S fs Q res fs' R e p => ?_⟩
  refine sa.bind R e p fun rx fs1 x H1 S1 R1 r1 e1 p1 st1 sh1 => ?_
  refine sb.bind R1 e1 p1 fun rs fs2 xs H2 S2 R2 r2 e2 p2 st2 sh2 => ?_
  cases e2
  exact p H2 S2 R2 (st1.seq sh1 st2) (sh1.trans sh2) _ (.cons (r1.later st2 sh2) (r2.early fun _ z => st1.none z))
/-- the values for good -/
def fzs : List Rv → Fs → Option (List D × Fs)
  | [], fs => some ([], fs)
  | r :: rs, fs => match r.fz fs with
    | none => none
    | some (d, fs1) => match fzs rs fs1 with
      | none => none
      | some (ds, fs2) => some (d :: ds, fs2)
end
/-- the same address behind two of them: no -/
theorem RvR.fzLater {K : PySem.W.Frag} {J : Inf} {σ : St} {Hs H S S' : Hp} {fs fs' : Fs} {v : V} {rv : Rv} {Z : Addr → Prop} (h : RvR K σ fs Hs H S v rv) (st : Stp (fun _ => False) Z H S H S') (sh : Shr fs fs')
    (nz : ∀ p, v = .ref p → (∃ d, rv = .fresh d) → ¬ Z p) : RvR K σ fs' Hs H S' v rv := by
  cases rv with
  | val d => exact Rp.mono st.grow h
  | slot i => exact h
  | fresh d =>
    obtain ⟨p, e, h1, h2, h3, h4⟩ := h
    refine ⟨p, e, h1.mono st.grow fun _ q => q, ?_, h3, fun z => h4 (sh.wn z)⟩
    cases q : S' p with
    | none => rfl
    | some o =>
      rcases st.new p (by rw [q]; simp) with z | z | z
      · exact absurd h2 z
      · obtain ⟨o', z'⟩ := h1.live
        rw [z] at z'; cases z'
      · exact absurd z (nz p e ⟨d, rfl⟩)
end Fx

namespace Fx
open PySem PySem.Spec PyProof.Rows L2
/-! ### values for good -/
def fzM (x : Rv) : M D := fun fs => match x.fz fs with
  | some (d, fs1) => some (.inr d, fs1)
  | none => none
def fD (f : M Rv) : M D := bnd f fzM
abbrev rD (K : PySem.W.Frag) : RT V D := fun _ _ _ _ S v d => Rp K S v d
instance {K : PySem.W.Frag} : Early (rD K) := ⟨fun _ r => r⟩
abbrev rDs (K : PySem.W.Frag) : RT (List V) (List D) := fun _ _ _ _ S v d => Rps K S v d
instance {K : PySem.W.Frag} : Early (rDs K) := ⟨fun _ r => r⟩
theorem Sim.fz {K : PySem.W.Frag} {J : Inf} {mg : Str → Option Value} {W : WX} {t : TE} {f : M Rv} (sa : Sim K J mg W t (rV K) f) : Sim K J mg W t (rD K) (fD f) := by
  intro σ H S fs Q res fs' R e p
  unfold fD bnd at e
  split at e
  · cases e
  · rename_i c fs1 q
    cases e
    exact sa σ H S fs Q _ _ R q fun H' S' R2 st sh => p H' S' R2 st sh
  · rename_i rv fs1 q
    unfold fzM at e
    split at e
    · rename_i d fs2 q2
      cases e
      refine sa σ H S fs Q _ _ R q fun H' S' R2 st sh v r => ?_
      obtain ⟨S2, R3, st3, sh3, r3, _⟩ := RvR.fz R2 r q2 R st sh
      exact p H' S2 R3 st3 sh3 v r3
    · cases e
def FD (X : Cx) (J : Inf) (W : WX) (e : Expr) (f : M D) : Prop := ∃ t, PE X e t ∧ Sim X.K J X.mg W t (rD X.K) f
section
variable {X : Cx} {J : Inf} {W : WX} {a b c : Expr} {es : List Expr} {f g h : M Rv} {pos : Pos}
theorem FE.d (h : FE X J W a f) : FD X J W a (fD f) := let ⟨t, p, s⟩ := h; ⟨t, p, s.fz⟩

/-! ### arguments: values for good, or an owned list handed on -/
inductive Av where
  | dat (d : D)
  | box (i : Nat)
def AvR (K : PySem.W.Frag) (σ : St) (S : Hp) (v : V) : Av → Prop
  | .dat d => Rp K S v d
  | .box i => σ[i]? = some (some v)
inductive AvsR (K : PySem.W.Frag) (σ : St) (S : Hp) : List V → List Av → Prop
  | nil : AvsR K σ S [] []
  | cons {v : V} {vs : List V} {a : Av} {as : List Av} : AvR K σ S v a → AvsR K σ S vs as → AvsR K σ S (v :: vs) (a :: as)
abbrev rAv (K : PySem.W.Frag) : RT (List V) (List Av) := fun σ _ _ _ S v d => AvsR K σ S v d
instance {K : PySem.W.Frag} : Early (rAv K) := ⟨fun _ r => r⟩
def FAs (X : Cx) (J : Inf) (W : WX) (es : List Expr) (f : M (List Av)) : Prop := ∃ t, PA X es t ∧ Sim X.K J X.mg W t (rAv X.K) f
def FDs (X : Cx) (J : Inf) (W : WX) (es : List Expr) (f : M (List D)) : Prop := ∃ t, PA X es t ∧ Sim X.K J X.mg W t (rDs X.K) f
def aNil : M (List Av) := rt []
def aCons (f : M Rv) (g : M (List Av)) : M (List Av) := bnd (fD f) fun d => bnd g fun as => rt (.dat d :: as)
def aBox (i : Nat) (g : M (List Av)) : M (List Av) := bnd g fun as => rt (.box i :: as)
def dNil : M (List D) := rt []
def dCons (f : M Rv) (g : M (List D)) : M (List D) := bnd (fD f) fun d => bnd g fun ds => rt (d :: ds)
theorem AvR.mono {K : PySem.W.Frag} {σ : St} {S S' : Hp} {v : V} {a : Av} (h : Same S S') (r : AvR K σ S v a) : AvR K σ S' v a := by
  cases a with
  | dat d => exact Rp.mono h r
  | box i => exact r
theorem fas_nil : FAs X J W [] aNil := ⟨_, pa_nil, fun σ H S fs Q res fs' R e p => by cases e; exact p.here R .nil⟩
theorem fas_cons {gs : M (List Av)} (ha : FE X J W a f) (hr : FAs X J W es gs) (hs : starEach (a :: es) X.env = (false, eval a X.env) :: starEach es X.env := by rfl) : FAs X J W (a :: es) (aCons f gs) := by
  obtain ⟨ta, pa, sa⟩ := ha.d
  obtain ⟨tb, pb, sb⟩ := hr
  refine ⟨_, pa_cons pa pb hs, fun σ H S fs Q res fs' R e p => ?_⟩
  refine sa.bind R e p fun d fs1 x H1 S1 R1 r1 e1 p1 st1 sh1 => ?_
  refine sb.bind R1 e1 p1 fun rs fs2 xs H2 S2 R2 r2 e2 p2 st2 sh2 => ?_
  cases e2
  exact p2.here R2 (.cons (show AvR X.K σ S2 x (.dat d) from Rp.mono st2.grow r1) r2)
def aBoxN (i : Nat) (g : M (List Av)) : M (List Av) := fun fs => match fs[i]? with
  | some (.own _ _) => aBox i g fs
  | _ => none
theorem fas_box {i : Nat} {x : Str} {gs : M (List Av)} (hr : FAs X J W es gs) (hN : X.N[i]? = some x := by rfl) (hv : Vis X.env.scope x := by first | exact Or.inl rfl | exact Or.inr (Or.inl rfl) | exact Or.inr (Or.inr rfl)) (hd : (x == ("__debug__" : Str)) = false := by decide)
    (hcd : (x == ("__classdict__" : Str)) = false := by decide) (hs : starEach (.Name x pos :: es) X.env = (false, eval (.Name x pos) X.env) :: starEach es X.env := by rfl) : FAs X J W (.Name x pos :: es) (aBoxN i gs) := by
  obtain ⟨tb, pb, sb⟩ := hr
  refine ⟨_, pa_cons (pe_var (i := i) hN hv hd hcd) pb hs, fun σ H S fs Q res fs' R e p => ?_⟩
  unfold aBoxN at e
  split at e
  · rename_i n d q
    obtain ⟨v, h1, h2⟩ := R.own i n d q
    refine ⟨_, h1, ?_⟩
    refine sb.bind R e p fun rs fs2 xs H2 S2 R2 r2 e2 p2 st2 sh2 => ?_
    cases e2
    exact p2.here R2 (.cons (show AvR X.K σ S2 _ (.box i) from h1) r2)
  · cases e
theorem fds_nil : FDs X J W [] dNil := ⟨_, pa_nil, fun σ H S fs Q res fs' R e p => by cases e; exact p.here R .nil⟩
theorem fds_cons {gs : M (List D)} (ha : FE X J W a f) (hr : FDs X J W es gs) (hs : starEach (a :: es) X.env = (false, eval a X.env) :: starEach es X.env := by rfl) : FDs X J W (a :: es) (dCons f gs) := by
  obtain ⟨ta, pa, sa⟩ := ha.d
  obtain ⟨tb, pb, sb⟩ := hr
  refine ⟨_, pa_cons pa pb hs, fun σ H S fs Q res fs' R e p => ?_⟩
  refine sa.bind R e p fun d fs1 x H1 S1 R1 r1 e1 p1 st1 sh1 => ?_
  refine sb.bind R1 e1 p1 fun rs fs2 xs H2 S2 R2 r2 e2 p2 st2 sh2 => ?_
  cases e2
  exact p2.here R2 (.cons (Rp.mono st2.grow r1) r2)

/-! ### a tuple, a list -/
def tTupF (t : TA) : TE := fun σ H Q => t σ H fun xs H1 => xs.length ≤ sizeLine ∧ ∀ p o, H1 p = none → o.dict = none → Q (.ref p) (upd H1 p (.frz o (.tup xs)))
theorem pe_tupF {t : TA} {x1} (h : PA X es t) : PE X (.Tuple es x1 pos) (tTupF t) := by
  refine ⟨fun pins s σ H Q I hq => ?_⟩
  refine wpAny_Tuple_spliced (thn (h.run pos pins s σ H _ I hq) fun us s1 ⟨xs, H1, I1, r, z, q⟩ => ⟨by rw [← r.length]; exact z, ?_⟩)
  have hf : H1 s1.heap.objs.size = none := I1.hok.fresh (Nat.le_refl _)
  have hg := Heap.get?_push_size s1.heap (o := ({ cls := .type "tuple", data := .seq us.toArray } : Obj)) rfl
  refine ⟨.ref s1.heap.objs.size, upd H1 s1.heap.objs.size (.frz { cls := .type "tuple", data := .seq us.toArray } (.tup xs)), I1.laid (t' := s1.toks) (fun b u e => Heap.get?_push_of_some _ e) (Nat.le_refl _) ?_, rfl, q _ _ hf rfl⟩
  exact ⟨hg, z, us, r, ⟨_, hg, rfl, _, rfl⟩⟩
def fTup (f : M (List D)) : M Rv := bnd f fun ds fs => if ds.length ≤ sizeLine then some (.inr (.val (.tuple ds)), fs) else none
def fLst (f : M (List D)) : M Rv := bnd f fun ds fs => if ds.length ≤ sizeLine then some (.inr (.fresh (.list ds)), fs) else none
theorem fe_tup {gs : M (List D)} {k : Nat} (ha : FDs X J W es gs) : FE X J W (.Tuple es k pos) (fTup gs) := by
  obtain ⟨ta, pa, sa⟩ := ha
  refine ⟨_, pe_tupF pa, fun σ H S fs Q res fs' R e p => ?_⟩
  refine sa.bind R e p fun ds fs1 xs H1 S1 R1 r1 e1 p1 st1 sh1 => ?_
  split at e1
  · rename_i hz
    cases e1
    exact ⟨by rw [Rps.length r1]; exact hz, fun l o hl hd => p1.toV.newT R1 r1 hl hd⟩
  · cases e1
theorem fe_lst {gs : M (List D)} (ha : FDs X J W es gs) : FE X J W (.List es pos) (fLst gs) := by
  obtain ⟨ta, pa, sa⟩ := ha
  refine ⟨_, pe_lst pa, fun σ H S fs Q res fs' R e p => ?_⟩
  refine sa.bind R e p fun ds fs1 xs H1 S1 R1 r1 e1 p1 st1 sh1 => ?_
  split at e1
  · rename_i hz
    cases e1
    exact ⟨by rw [Rps.length r1]; exact hz, fun l hl => p1.toV.newL R1 r1 hl⟩
  · cases e1
end

/-! ### what a def does -/
abbrev Fn := List Sl → Option ((Cls ⊕ (Bool × D)) × List Sl)
structure ArgR (K : PySem.W.Frag) (S H : Hp) (vs : List V) (as : List Sl) : Prop where
  len : vs.length = as.length
  dat : ∀ (i : Nat) (d : D), as[i]? = some (.dat d) → ∃ v, vs[i]? = some v ∧ Rp K S v d
  own : ∀ (i n : Nat) (d : D), as[i]? = some (.own n d) → n = i + 1 ∧ ∃ p, vs[i]? = some (.ref p) ∧ OwnAt K S H p d ∧ S p = none
  sep : ∀ (i j n m : Nat) (d e : D) (p : Addr), as[i]? = some (.own n d) → as[j]? = some (.own m e) → vs[i]? = some (.ref p) → vs[j]? = some (.ref p) → i = j
def Bx (vs : List V) (as : List Sl) (a : Addr) : Prop := ∃ (i n : Nat) (d : D), as[i]? = some (.own n d) ∧ vs[i]? = some (.ref a)
def OutR (K : PySem.W.Frag) (S H : Hp) (vs : List V) (as outs : List Sl) : Prop :=
  ∀ (i n : Nat) (d : D), outs[i]? = some (.own n d) → (∃ m e, as[i]? = some (.own m e)) ∧ ∃ p, vs[i]? = some (.ref p) ∧ OwnAt K S H p d ∧ S p = none
def RetR (K : PySem.W.Frag) (Hs S H : Hp) (v : V) : Bool → D → Prop
  | false, d => Rp K S v d
  | true, d => ∃ p, v = .ref p ∧ OwnAt K S H p d ∧ S p = none ∧ Hs p = none
def spF (K : PySem.W.Frag) (mg : Str → Option Value) (G : Fn) : Sp := fun vs H Q E => ∃ S as res outs, Same S H ∧ ArgR K S H vs as ∧ G as = some (res, outs) ∧
  ∀ H' S', Same S' H' → Stp (Bx vs as) (fun _ => False) H S H' S' → OutR K S' H' vs as outs → match res with
    | .inl c => ∀ C, mg c = some (.ref C) → E (.ref C) none H'
    | .inr (fr, d) => ∀ v, RetR K H S' H' v fr d → Q v H'

/-! ### a call -/
def resolve (fs : Fs) : Nat → List Av → Option (List Sl)
  | _, [] => some []
  | k, .dat d :: as => (resolve fs (k + 1) as).map fun r => .dat d :: r
  | k, .box i :: as => match fs[i]? with
    | some (.own _ d) => (resolve fs (k + 1) as).map fun r => .own (k + 1) d :: r
    | _ => none
def boxes : List Av → List Nat
  | [] => []
  | .dat _ :: as => boxes as
  | .box i :: as => i :: boxes as
def bxpos : Nat → List Av → Option (Nat × Nat)
  | _, [] => none
  | k, .dat _ :: as => bxpos (k + 1) as
  | k, .box i :: _ => some (k, i)
def wb (as : List Av) (outs : List Sl) (fs : Fs) : Fs := match bxpos 0 as with
  | none => fs
  | some (k, i) => match fs[i]?, outs[k]? with
    | some (.own n _), some (.own _ d) => fs.set i (.own n d)
    | _, _ => fs.set i .no
def fCall (G : Fn) (f : M (List Av)) : M Rv := bnd f fun as fs => match resolve fs 0 as with
  | none => none
  | some sl => if (boxes as).length ≤ 1 then match G sl with
      | none => none
      | some (.inl c, outs) => some (.inl c, wb as outs fs)
      | some (.inr (fr, d), outs) => some (.inr (bif fr then .fresh d else .val d), wb as outs fs)
    else none
theorem mem_boxes : ∀ {as : List Av} {j i : Nat}, as[j]? = some (.box i) → i ∈ boxes as
  | [], _, _, h => by simp at h
  | .dat _ :: as, 0, _, h => by simp at h
  | .dat _ :: as, j + 1, i, h => mem_boxes (as := as) (j := j) (by simpa using h)
  | .box b :: as, 0, i, h => by
    have e : b = i := by simpa using h
    subst e
    exact List.mem_cons_self
  | .box b :: as, j + 1, i, h => List.mem_cons_of_mem _ (mem_boxes (as := as) (j := j) (by simpa using h))
theorem one_box : ∀ {as : List Av} {i j a b : Nat}, (boxes as).length ≤ 1 → as[i]? = some (.box a) → as[j]? = some (.box b) → i = j
  | [], _, _, _, _, _, h, _ => by simp at h
  | .dat _ :: as, 0, _, _, _, _, h, _ => by simp at h
  | .dat _ :: as, _ + 1, 0, _, _, _, _, h => by simp at h
  | .dat _ :: as, i + 1, j + 1, a, b, hl, h1, h2 => by rw [one_box (as := as) (i := i) (j := j) hl (by simpa using h1) (by simpa using h2)]
  | .box c :: as, 0, 0, _, _, _, _, _ => rfl
  | .box c :: as, 0, j + 1, a, b, hl, _, h => by
    have m := mem_boxes (as := as) (j := j) (i := b) (by simpa using h)
    have : 0 < (boxes as).length := List.length_pos_of_mem m
    simp only [boxes, List.length_cons] at hl
    omega
  | .box c :: as, i + 1, 0, a, b, hl, h, _ => by
    have m := mem_boxes (as := as) (j := i) (i := a) (by simpa using h)
    have : 0 < (boxes as).length := List.length_pos_of_mem m
    simp only [boxes, List.length_cons] at hl
    omega
  | .box c :: as, i + 1, j + 1, a, b, hl, h1, h2 => by
    have hl' : (boxes as).length ≤ 1 := by simp only [boxes, List.length_cons] at hl; omega
    rw [one_box (as := as) (i := i) (j := j) hl' (by simpa using h1) (by simpa using h2)]
theorem bxpos_of : ∀ {as : List Av} {k j i : Nat}, (boxes as).length ≤ 1 → as[j]? = some (.box i) → bxpos k as = some (k + j, i)
  | [], _, _, _, _, h => by simp at h
  | .dat _ :: as, _, 0, _, _, h => by simp at h
  | .dat _ :: as, k, j + 1, i, hl, h => by
    have := bxpos_of (as := as) (k := k + 1) (j := j) (i := i) hl (by simpa using h)
    simp only [bxpos]
    rw [this]
    congr 2
    omega
  | .box b :: as, k, 0, i, hl, h => by
    have e : b = i := by simpa using h
    subst e
    rfl
  | .box b :: as, k, j + 1, i, hl, h => by
    have m := mem_boxes (as := as) (j := j) (i := i) (by simpa using h)
    have : 0 < (boxes as).length := List.length_pos_of_mem m
    simp only [boxes, List.length_cons] at hl
    omega
theorem of_bxpos : ∀ {as : List Av} {k p i : Nat}, bxpos k as = some (p, i) → ∃ j, p = k + j ∧ as[j]? = some (.box i)
  | [], _, _, _, h => by cases h
  | .dat _ :: as, k, p, i, h => by
    obtain ⟨j, e, q⟩ := of_bxpos (as := as) (k := k + 1) (show bxpos (k + 1) as = some (p, i) from h)
    exact ⟨j + 1, by omega, by simpa using q⟩
  | .box b :: as, k, p, i, h => by
    cases h
    exact ⟨0, rfl, rfl⟩
theorem resolve_len {fs : Fs} : ∀ {as : List Av} {k : Nat} {sl : List Sl}, resolve fs k as = some sl → sl.length = as.length
  | [], _, _, h => by cases h; rfl
  | .dat d :: as, k, sl, h => by
    obtain ⟨r, h1, rfl⟩ := Option.map_eq_some_iff.mp (show (resolve fs (k + 1) as).map _ = some sl from h)
    rw [List.length_cons, List.length_cons, resolve_len h1]
  | .box i :: as, k, sl, h => by
    simp only [resolve] at h
    split at h
    · obtain ⟨r, h1, rfl⟩ := Option.map_eq_some_iff.mp h
      rw [List.length_cons, List.length_cons, resolve_len h1]
    · cases h
theorem resolve_get {fs : Fs} : ∀ {as : List Av} {k : Nat} {sl : List Sl} {j : Nat} {s : Sl}, resolve fs k as = some sl → sl[j]? = some s →
    (∃ d, as[j]? = some (.dat d) ∧ s = .dat d) ∨ ∃ i n d, as[j]? = some (.box i) ∧ fs[i]? = some (.own n d) ∧ s = .own (k + j + 1) d
  | [], _, _, j, s, h, e => by cases h; simp at e
  | .dat d :: as, k, sl, j, s, h, e => by
    obtain ⟨r, h1, rfl⟩ := Option.map_eq_some_iff.mp (show (resolve fs (k + 1) as).map _ = some sl from h)
    cases j with
    | zero => exact .inl ⟨d, rfl, by simpa using e.symm⟩
    | succ j =>
      rcases resolve_get (j := j) h1 (by simpa using e) with ⟨d', q1, q2⟩ | ⟨i, n, d', q1, q2, q3⟩
      · exact .inl ⟨d', by simpa using q1, q2⟩
      · exact .inr ⟨i, n, d', by simpa using q1, q2, by rw [q3]; congr 1; omega⟩
  | .box i :: as, k, sl, j, s, h, e => by
    simp only [resolve] at h
    split at h
    · rename_i n d q
      obtain ⟨r, h1, rfl⟩ := Option.map_eq_some_iff.mp h
      cases j with
      | zero => exact .inr ⟨i, n, d, rfl, q, by simpa using e.symm⟩
      | succ j =>
        rcases resolve_get (j := j) h1 (by simpa using e) with ⟨d', q1, q2⟩ | ⟨i', n', d', q1, q2, q3⟩
        · exact .inl ⟨d', by simpa using q1, q2⟩
        · exact .inr ⟨i', n', d', by simpa using q1, q2, by rw [q3]; congr 1; omega⟩
    · cases h
theorem AvsR.length {K : PySem.W.Frag} {σ : St} {S : Hp} : ∀ {vs : List V} {as : List Av}, AvsR K σ S vs as → vs.length = as.length
  | _, _, .nil => rfl
  | _, _, .cons _ t => by rw [List.length_cons, List.length_cons, AvsR.length t]
theorem AvsR.get {K : PySem.W.Frag} {σ : St} {S : Hp} : ∀ {vs : List V} {as : List Av} {i : Nat} {a : Av}, AvsR K σ S vs as → as[i]? = some a → ∃ v, vs[i]? = some v ∧ AvR K σ S v a
  | _, _, _, _, .nil, e => by simp at e
  | _, _, 0, _, .cons r _, e => by simp at e; subst e; exact ⟨_, rfl, r⟩
  | _, _, i + 1, _, .cons _ t, e => by
    obtain ⟨v, h1, h2⟩ := AvsR.get (i := i) t (by simpa using e)
    exact ⟨v, by simpa using h1, h2⟩
section
variable {K : PySem.W.Frag} {J : Inf} {σ : St} {fs : Fs} {H S H' S' : Hp} {vs : List V} {as : List Av} {sl outs : List Sl}
theorem argR_of (R : Rel K J σ H S fs) (r : AvsR K σ S vs as) (e : resolve fs 0 as = some sl) (h1 : (boxes as).length ≤ 1) : ArgR K S H vs sl where
  len := by rw [r.length, resolve_len e]
  dat := fun i d q => by
    rcases resolve_get e q with ⟨d', q1, q2⟩ | ⟨i', n, d', q1, q2, q3⟩
    · cases q2
      exact r.get q1
    · cases q3
  own := fun i n d q => by
    rcases resolve_get e q with ⟨d', q1, q2⟩ | ⟨i', n', d', q1, q2, q3⟩
    · cases q2
    · cases q3
      obtain ⟨v, z1, z2⟩ := r.get q1
      have z2' : σ[i']? = some (some v) := z2
      obtain ⟨p, w1, w2, w3, _⟩ := R.own i' n' d q2
      rw [z2'] at w1
      cases w1
      exact ⟨by omega, p, z1, w2, w3⟩
  sep := fun i j n m d e' p q1 q2 _ _ => by
    rcases resolve_get e q1 with ⟨d', z1, z2⟩ | ⟨i', n', d', z1, z2, z3⟩
    · cases z2
    · rcases resolve_get e q2 with ⟨d', y1, y2⟩ | ⟨i'', n'', d'', y1, y2, y3⟩
      · cases y2
      · exact one_box h1 z1 y1
theorem bx_wn (r : AvsR K σ S vs as) (e : resolve fs 0 as = some sl) {a : Addr} (h : Bx vs sl a) : ∃ (k i n : Nat) (d : D), as[k]? = some (Av.box i) ∧ vs[k]? = some (V.ref a) ∧ fs[i]? = some (Sl.own n d) ∧ σ[i]? = some (some (V.ref a)) := by
  obtain ⟨k, n, d, q1, q2⟩ := h
  rcases resolve_get e q1 with ⟨d', z1, z2⟩ | ⟨i', n', d', z1, z2, z3⟩
  · cases z2
  · obtain ⟨v, w1, w2⟩ := r.get z1
    rw [q2] at w1
    cases w1
    exact ⟨k, i', n', d', z1, q2, z2, w2⟩
theorem after_call (R : Rel K J σ H S fs) (r : AvsR K σ S vs as) (e : resolve fs 0 as = some sl) (h1 : (boxes as).length ≤ 1) (sub : Same S' H') (st : Stp (Bx vs sl) (fun _ => False) H S H' S') (o : OutR K S' H' vs sl outs) :
    Rel K J σ H' S' (wb as outs fs) ∧ Stp (Wn σ fs) (Wz σ fs) H S H' S' ∧ Shr fs (wb as outs fs) := by
  have st' : Stp (Wn σ fs) (Wz σ fs) H S H' S' := st.weak (fun a h => let ⟨k, i, n, d, _, _, q3, q4⟩ := bx_wn r e h; ⟨i, n, d, q3, q4⟩) fun _ z => z.elim
  have sh : Shr fs (wb as outs fs) := by
    unfold wb
    split
    · exact Shr.refl _
    · rename_i k i q
      split
      · rename_i n d0 m d z1 z2
        exact Shr.set fun n' d' w => by cases w; exact ⟨_, z1⟩
      · exact Shr.set fun n' d' w => by cases w
  refine ⟨R.step st' sub ?_ (fun i d q => ?_) (fun i n d q => ?_) sh, st', sh⟩
  · unfold wb
    split
    · exact R.len
    · split <;> rw [List.length_set] <;> exact R.len
  · have q' : fs[i]? = some (.dat d) := by
      unfold wb at q
      split at q
      · exact q
      · rename_i k i' _
        by_cases hj : i' = i
        · subst hj
          exfalso
          by_cases hl : i' < fs.length
          · split at q <;> (rw [List.getElem?_set_self hl] at q; cases q)
          · split at q <;> (rw [List.getElem?_eq_none (by simpa using hl)] at q; cases q)
        · split at q <;> (rw [List.getElem?_set_ne hj] at q; exact q)
    obtain ⟨v, w1, w2⟩ := R.dat i d q'
    exact ⟨v, w1, w2.mono st.grow⟩
  · -- an owned slot: the box, or another one
    have other : fs[i]? = some (.own n d) → (∀ k : Nat, as[k]? ≠ some (Av.box i)) → ∃ p, σ[i]? = some (some (.ref p)) ∧ OwnAt K S' H' p d ∧ S' p = none := fun q hb => by
      obtain ⟨p, w1, w2, w3, _⟩ := R.own i n d q
      have nb : ¬ Bx vs sl p := fun z => by
        obtain ⟨k, i', n', d', y1, y2, y3, y4⟩ := bx_wn r e z
        have ei := R.sep i i' n n' d d' p q y3 w1 y4
        subst ei
        exact hb k y1
      refine ⟨p, w1, w2.mono st.grow fun u z => st.keep p u z nb, ?_⟩
      cases y : S' p with
      | none => rfl
      | some u =>
        rcases st.new p (by rw [y]; simp) with z | z | z
        · exact absurd w3 z
        · obtain ⟨u', z'⟩ := w2.live
          rw [z] at z'; cases z'
        · exact z.elim
    unfold wb at q
    split at q
    · rename_i hb
      refine other q fun k z => ?_
      rw [bxpos_of (k := 0) h1 z] at hb
      cases hb
    · rename_i k i' hb
      obtain ⟨j, hj, hbox⟩ := of_bxpos hb
      have ek : k = j := by omega
      subst ek
      by_cases hj : i' = i
      · subst hj
        by_cases hl : i' < fs.length
        · split at q
          · rename_i n0 d0 m d1 z1 z2
            rw [List.getElem?_set_self hl] at q
            cases q
            obtain ⟨_, p, y1, y2, y3⟩ := o k m d z2
            obtain ⟨v, w1, w2⟩ := r.get hbox
            rw [y1] at w1
            cases w1
            exact ⟨p, w2, y2, y3⟩
          · rw [List.getElem?_set_self hl] at q
            cases q
        · split at q <;> (rw [List.getElem?_eq_none (by simpa using hl)] at q; cases q)
      · have q' : fs[i]? = some (.own n d) := by
          split at q <;> (rw [List.getElem?_set_ne hj] at q; exact q)
        refine other q' fun k' z => ?_
        have := one_box h1 hbox z
        subst this
        rw [hbox] at z
        cases z
        exact hj rfl
end
section
variable {X : Cx} {J : Inf} {W : WX} {k : Nat} {fa : Addr} {fd : FuncData} {ps : List Str} {G : Fn} {x : Str} {p pos : Pos} {e : Expr} {es : List Expr} {fas : M (List Av)}
theorem sim_call {t : TA} (sa : Sim X.K J X.mg W t (rAv X.K) fas) : Sim X.K J X.mg W (tCallS (spF X.K X.mg G) (WE W) t) (rV X.K) (fCall G fas) := by
  intro σ H S fs Q res fs' R e p
  refine sa.bind R e p fun as fs1 vs H1 S1 R1 r1 e1 p1 st1 sh1 => ?_
  split at e1
  · cases e1
  · rename_i sl q
    split at e1
    · rename_i hb
      have fin : ∀ {res' : Cls ⊕ (Bool × D)} {outs : List Sl}, G sl = some (res', outs) → (∀ H' S', Rel X.K J σ H' S' (wb as outs fs1) → Stp (Wn σ fs1) (Wz σ fs1) H1 S1 H' S' → Shr fs1 (wb as outs fs1) → Stp (Bx vs sl) (fun _ => False) H1 S1 H' S' → match res' with
            | .inl c => ∀ C, X.mg c = some (.ref C) → W (.ref C) none σ H'
            | .inr (fr, d) => ∀ v, RetR X.K H1 S' H' v fr d → Q v H') → spF X.K X.mg G vs H1 Q (WE W σ) := fun {res' outs} g k =>
        ⟨S1, sl, res', outs, R1.sub, argR_of R1 r1 q hb, g, fun H' S' sub st o => by
          obtain ⟨R2, st2, sh2⟩ := after_call R1 r1 q hb sub st o
          exact k H' S' R2 st2 sh2 st⟩
      split at e1
      · cases e1
      · rename_i c outs g
        cases e1
        exact fin g fun H' S' R2 st2 sh2 _ => p1 H' S' R2 st2 sh2
      · rename_i fr d outs g
        cases e1
        refine fin g fun H' S' R2 st2 sh2 stb v r => p1 H' S' R2 st2 sh2 v ?_
        cases fr with
        | false => exact r
        | true =>
          obtain ⟨l, e1, e2, e3, e4⟩ := r
          exact ⟨l, e1, e2, e3, e4, fun z => by
            obtain ⟨o, z'⟩ := R1.wn_live (sh2.wn z)
            rw [e4] at z'; cases z'⟩
    · cases e1
/-- a def of the text that does G -/
abbrev FnS (P : Program) (w : World) (K : PySem.W.Frag) (mg : Str → Option Value) (base : Heap) (k : Nat) (fa : Addr) (fd : FuncData) (ps : List Str) (G : Fn) : Prop := FnOk P w K mg base (L2.CX P w) k fa fd ps (spF K mg G)
theorem fe_call (F : FnS X.prog X.w X.K X.mg X.base k fa fd ps G) (hr : Room k X.A) (hg : Gl X x) (hm : X.mg x = some (.ref fa)) (hk : PySem.W.keepIn X.K (.ref fa) = true) (hb : Binds X.K fd ps []) (tk : Takes X W) (ha : FAs X J W (e :: es) fas)
    (hdb : (x == ("__debug__" : Str)) = false := by decide) (he : starEach (e :: es) X.env = (false, eval e X.env) :: starEach es X.env := by rfl) (hpl : (backTo pos (starEach es X.env)).any (·.1) = false := by rfl) :
    FE X J W (.Call (.Name x p) (e :: es) [] pos) (fCall G fas) := by
  obtain ⟨t, pa, sa⟩ := ha
  exact ⟨_, pe_callS F hr hg hm hk hb (fun σ => passAt tk σ) pa hdb he hpl, sim_call sa⟩
end

/-! ### statements -/
inductive Fl where
  | nx
  | bk
  | ct
  | ret (fr : Bool) (d : D)
  | ex (c : Cls)
abbrev SM := Fs → Option (Fl × Fs)
def RetJ (K : PySem.W.Frag) (J : Inf) (S H : Hp) (v : V) : Bool → D → Prop
  | false, d => Rp K S v d
  | true, d => ∃ p, v = .ref p ∧ OwnAt K S H p d ∧ S p = none ∧ J.H0 p = none
def PostS (K : PySem.W.Frag) (J : Inf) (mg : Str → Option Value) (W : WX) (D : Ends) (S : Hp) (r : Fl) (fs' : Fs) : Prop :=
  ∀ σ' H' S', Rel K J σ' H' S' fs' → Same S S' → match r with
    | .nx => D.nx σ' H'
    | .bk => D.bk σ' H'
    | .ct => D.ct σ' H'
    | .ret fr d => ∀ v, RetJ K J S' H' v fr d → D.rt v H'
    | .ex c => ∀ C, mg c = some (.ref C) → W (.ref C) none σ' H'
def SimS (K : PySem.W.Frag) (J : Inf) (mg : Str → Option Value) (W : WX) (t : TS) (g : SM) : Prop :=
  ∀ (σ : St) (H S : Hp) (fs : Fs) (D : Ends) (r : Fl) (fs' : Fs), Rel K J σ H S fs → g fs = some (r, fs') → PostS K J mg W D S r fs' → t D σ H
def FS (X : Cx) (J : Inf) (W : WX) (st : Stmt) (g : SM) : Prop := ∃ t, PS X st t ∧ SimS X.K J X.mg W t g
def FSs (X : Cx) (J : Inf) (W : WX) (st : List Stmt) (g : SM) : Prop := ∃ t, PSs X st t ∧ SimS X.K J X.mg W t g
theorem PostS.next {K : PySem.W.Frag} {J : Inf} {mg : Str → Option Value} {W : WX} {D : Ends} {S S1 : Hp} {r : Fl} {fs' : Fs} (p : PostS K J mg W D S r fs') (h : Same S S1) : PostS K J mg W D S1 r fs' := fun σ' H' S' R g => p σ' H' S' R (h.trans g)
/-- from an expression to a statement -/
def bndS {α : Type} (f : M α) (g : α → SM) : SM := fun fs => match f fs with
  | none => none
  | some (.inl c, fs1) => some (.ex c, fs1)
  | some (.inr a, fs1) => g a fs1
section
variable {X : Cx} {J : Inf} {W : WX} {st : Stmt} {rest : List Stmt} {g h : SM} {e : Expr} {f : M Rv} {pos : Pos}
theorem Sim.bindS {β α : Type} {K : PySem.W.Frag} {mg : Str → Option Value} {σ : St} {fs fs' : Fs} {H S : Hp} {t : St → Hp → (β → Hp → Prop) → Prop} {R : RT β α} {f : M α} {g : α → SM} {Q : β → Hp → Prop} {D : Ends} {r : Fl}
    (h : Sim K J mg W t R f) (rel : Rel K J σ H S fs) (e : bndS f g fs = some (r, fs')) (post : PostS K J mg W D S r fs')
    (k : ∀ a fs1 b H1 S1, Rel K J σ H1 S1 fs1 → R σ fs1 H H1 S1 b a → g a fs1 = some (r, fs') → PostS K J mg W D S1 r fs' → Stp (Wn σ fs) (Wz σ fs) H S H1 S1 → Shr fs fs1 → Q b H1) : t σ H Q := by
  unfold bndS at e
  split at e
  · cases e
  · rename_i c fs1 q
    cases e
    exact h σ H S fs Q _ _ rel q fun H' S' R2 st sh => post σ H' S' R2 st.grow
  · rename_i a fs1 q
    exact h σ H S fs Q _ fs1 rel q fun H' S' R2 st sh b r => k a fs1 b H' S' R2 r e (post.next st.grow) st sh
def sNil : SM := fun fs => some (.nx, fs)
def sCons (g h : SM) : SM := fun fs => match g fs with
  | some (.nx, fs1) => h fs1
  | r => r
theorem fss_nil : FSs X J W [] sNil := ⟨_, pss_nil, fun σ H S fs D r fs' R e p => by cases e; exact p σ H S R (Same.refl _)⟩
theorem fss_one (h1 : FS X J W st g) : FSs X J W [st] g := let ⟨t, p, s⟩ := h1; ⟨t, pss_one p, s⟩
theorem fss_cons (h1 : FS X J W st g) (h2 : FSs X J W rest h) : FSs X J W (st :: rest) (sCons g h) := by
  obtain ⟨t, pt, s1⟩ := h1
  obtain ⟨u, pu, s2⟩ := h2
  refine ⟨_, pss_cons pt pu, fun σ H S fs D r fs' R e p => ?_⟩
  unfold sCons at e
  split at e
  · rename_i fs1 q
    exact s1 σ H S fs _ _ _ R q fun σ' H' S' R' gr => s2 σ' H' S' fs1 D r fs' R' e (p.next gr)
  · rename_i hne
    refine s1 σ H S fs _ _ _ R e fun σ' H' S' R' gr => ?_
    have z := p σ' H' S' R' gr
    cases r with
    | nx => exact absurd e (hne fs')
    | bk => exact z
    | ct => exact z
    | ret fr d => exact z
    | ex c => exact z
theorem fs_pass : FS X J W (.Pass pos) sNil := ⟨_, ps_pass, fun σ H S fs D r fs' R e p => by cases e; exact p σ H S R (Same.refl _)⟩
def sBrk : SM := fun fs => some (.bk, fs)
def sCnt : SM := fun fs => some (.ct, fs)
def sRetN : SM := fun fs => some (.ret false .none, fs)
theorem fs_break : FS X J W (.Break pos) sBrk := ⟨_, ps_break, fun σ H S fs D r fs' R e p => by cases e; exact p σ H S R (Same.refl _)⟩
theorem fs_continue : FS X J W (.Continue pos) sCnt := ⟨_, ps_continue, fun σ H S fs D r fs' R e p => by cases e; exact p σ H S R (Same.refl _)⟩
theorem fs_never : FS X J W st (fun _ => none) := ⟨_, ps_never, fun σ H S fs D r fs' R e p => by cases e⟩
/-! an expression alone; return -/
def sDrop (f : M Rv) : SM := bndS f fun _ fs => some (.nx, fs)
theorem fs_expr (he : FE X J W e f) (hs : swapsWith e none pos.line X.env = pure false := by rfl) : FS X J W (.Expr e pos) (sDrop f) := by
  obtain ⟨t, p, s⟩ := he
  refine ⟨_, ps_expr p hs, fun σ H S fs D r fs' R e p => ?_⟩
  refine s.bindS R e p fun rv fs1 v H1 S1 R1 r1 e1 p1 _ _ => ?_
  cases e1
  exact p1 σ H1 S1 R1 (Same.refl _)
/-- the value handed back: an own list is given away -/
def sRet (f : M Rv) : SM := bndS f fun rv fs => match rv with
  | .val d => some (.ret false d, fs)
  | .fresh d => some (.ret true d, fs)
  | .slot i => match fs[i]? with
    | some (.own 0 d) => some (.ret true d, fs.set i .no)
    | some (.dat d) => some (.ret false d, fs)
    | _ => none
theorem Rel.lose {K : PySem.W.Frag} {σ : St} {H S : Hp} {fs : Fs} (R : Rel K J σ H S fs) (i : Nat) : Rel K J σ H S (fs.set i .no) where
  sub := R.sub
  len := by rw [List.length_set]; exact R.len
  dat := fun j d q => by
    by_cases hj : i = j
    · subst hj
      by_cases hl : i < fs.length
      · rw [List.getElem?_set_self hl] at q; cases q
      · rw [List.getElem?_eq_none (by simpa using hl)] at q; cases q
    · rw [List.getElem?_set_ne hj] at q; exact R.dat j d q
  own := fun j n d q => by
    by_cases hj : i = j
    · subst hj
      by_cases hl : i < fs.length
      · rw [List.getElem?_set_self hl] at q; cases q
      · rw [List.getElem?_eq_none (by simpa using hl)] at q; cases q
    · rw [List.getElem?_set_ne hj] at q; exact R.own j n d q
  sep := fun j k n m d e p q1 q2 => by
    have z : ∀ {a b : Nat} {d : D}, (fs.set i .no)[a]? = some (.own b d) → fs[a]? = some (.own b d) := fun {a b d} q => by
      by_cases hj : i = a
      · subst hj
        by_cases hl : i < fs.length
        · rw [List.getElem?_set_self hl] at q; cases q
        · rw [List.getElem?_eq_none (by simpa using hl)] at q; cases q
      · rw [List.getElem?_set_ne hj] at q; exact q
    exact R.sep j k n m d e p (z q1) (z q2)
  keep0 := R.keep0
  grow0 := R.grow0
  new0 := R.new0
  live0 := R.live0
  bwl := R.bwl
theorem fs_ret (he : FE X J W e f) : FS X J W (.Return (some e) pos) (sRet f) := by
  obtain ⟨t, p, s⟩ := he
  refine ⟨_, ps_ret p, fun σ H S fs D r fs' R e p => ?_⟩
  refine s.bindS R e p fun rv fs1 v H1 S1 R1 r1 e1 p1 st1 sh1 => ?_
  have old : ∀ l, H l = none → J.H0 l = none := fun l z => by
    cases q : J.H0 l with
    | none => rfl
    | some o => exact absurd z (R.live0 l (by rw [q]; simp))
  cases rv with
  | val d =>
    cases e1
    exact p1 σ H1 S1 R1 (Same.refl _) v r1
  | fresh d =>
    cases e1
    obtain ⟨l, e1, e2, e3, e4, _⟩ := r1
    exact p1 σ H1 S1 R1 (Same.refl _) v ⟨l, e1, e2, e3, old l e4⟩
  | slot i =>
    have r1' : σ[i]? = some (some v) := r1
    dsimp only at e1
    split at e1
    · rename_i d q
      cases e1
      obtain ⟨l, w1, w2, w3, w4⟩ := R1.own i 0 d q
      rw [r1'] at w1
      cases w1
      exact p1 σ H1 S1 (R1.lose i) (Same.refl _) _ ⟨l, rfl, w2, w3, w4⟩
    · rename_i d q
      cases e1
      obtain ⟨v', w1, w2⟩ := R1.dat i d q
      rw [r1'] at w1
      cases w1
      exact p1 σ H1 S1 R1 (Same.refl _) v w2
    · cases e1
theorem fs_retN : FS X J W (.Return none pos) sRetN :=
  ⟨_, ps_retN, fun σ H S fs D r fs' R e p => by cases e; exact p σ H S R (Same.refl _) _ Rp.non⟩
/-! if -/
def sIf (c : M Bool) (g h : SM) : SM := bndS c fun b => match b with
  | true => g
  | false => h
theorem fs_if {c : Expr} {a b : List Stmt} {fc : M Bool} (hc : FT X J W c fc) (ha : FSs X J W a g) (hb : FSs X J W b h) : FS X J W (.If c a b pos) (sIf fc g h) := by
  obtain ⟨tc, pc, sc⟩ := hc
  obtain ⟨ta, pa, sa⟩ := ha
  obtain ⟨tb, pb, sb⟩ := hb
  refine ⟨_, ps_if pc pa pb, fun σ H S fs D r fs' R e p => ?_⟩
  refine sc.bindS R e p fun k fs1 k' H1 S1 R1 r1 e1 p1 _ _ => ?_
  cases r1
  cases k with
  | true =>
    rw [if_pos rfl]
    exact sa σ H1 S1 fs1 D r fs' R1 e1 p1
  | false =>
    rw [if_neg Bool.false_ne_true]
    exact sb σ H1 S1 fs1 D r fs' R1 e1 p1
/-! a name is stored -/
theorem Rel.putD {K : PySem.W.Frag} {σ : St} {H S : Hp} {fs : Fs} (R : Rel K J σ H S fs) (i : Nat) {v : V} {d : D} (r : Rp K S v d) : Rel K J (σ.set i (some v)) H S (fs.set i (.dat d)) where
  sub := R.sub
  len := by rw [List.length_set, List.length_set]; exact R.len
  dat := fun j d' q => by
    by_cases hj : i = j
    · subst hj
      by_cases hl : i < fs.length
      · rw [List.getElem?_set_self hl] at q
        cases q
        exact ⟨v, by rw [List.getElem?_set_self (by rw [R.len]; exact hl)], r⟩
      · rw [List.getElem?_eq_none (by simpa using hl)] at q; cases q
    · rw [List.getElem?_set_ne hj] at q
      rw [List.getElem?_set_ne hj]
      exact R.dat j d' q
  own := fun j n d' q => by
    by_cases hj : i = j
    · subst hj
      by_cases hl : i < fs.length
      · rw [List.getElem?_set_self hl] at q; cases q
      · rw [List.getElem?_eq_none (by simpa using hl)] at q; cases q
    · rw [List.getElem?_set_ne hj] at q
      rw [List.getElem?_set_ne hj]
      exact R.own j n d' q
  sep := fun j k n m d' e p q1 q2 z1 z2 => by
    have z : ∀ {a b : Nat} {d' : D}, (fs.set i (.dat d))[a]? = some (.own b d') → i ≠ a := fun {a b d'} q hj => by
      subst hj
      by_cases hl : i < fs.length
      · rw [List.getElem?_set_self hl] at q; cases q
      · rw [List.getElem?_eq_none (by simpa using hl)] at q; cases q
    have a1 := z q1
    have a2 := z q2
    rw [List.getElem?_set_ne a1] at q1 z1
    rw [List.getElem?_set_ne a2] at q2 z2
    exact R.sep j k n m d' e p q1 q2 z1 z2
  keep0 := R.keep0
  grow0 := R.grow0
  new0 := R.new0
  live0 := R.live0
  bwl := R.bwl
theorem Rel.putO {K : PySem.W.Frag} {σ : St} {H S : Hp} {fs : Fs} (R : Rel K J σ H S fs) (i : Nat) {l : Addr} {d : D} (r : OwnAt K S H l d) (hs : S l = none) (hn : J.H0 l = none) (hw : ¬ Wn σ fs l) : Rel K J (σ.set i (some (.ref l))) H S (fs.set i (.own 0 d)) where
  sub := R.sub
  len := by rw [List.length_set, List.length_set]; exact R.len
  dat := fun j d' q => by
    by_cases hj : i = j
    · subst hj
      by_cases hl : i < fs.length
      · rw [List.getElem?_set_self hl] at q; cases q
      · rw [List.getElem?_eq_none (by simpa using hl)] at q; cases q
    · rw [List.getElem?_set_ne hj] at q
      rw [List.getElem?_set_ne hj]
      exact R.dat j d' q
  own := fun j n d' q => by
    by_cases hj : i = j
    · subst hj
      by_cases hl : i < fs.length
      · rw [List.getElem?_set_self hl] at q
        cases q
        exact ⟨l, by rw [List.getElem?_set_self (by rw [R.len]; exact hl)], r, hs, hn⟩
      · rw [List.getElem?_eq_none (by simpa using hl)] at q; cases q
    · rw [List.getElem?_set_ne hj] at q
      rw [List.getElem?_set_ne hj]
      exact R.own j n d' q
  sep := fun j k n m d' e p q1 q2 z1 z2 => by
    have at_i : ∀ {b : Nat} {d' : D}, (fs.set i (.own 0 d))[i]? = some (.own b d') → i < σ.length := fun {b d'} q => by
      by_cases hl : i < fs.length
      · rw [R.len]; exact hl
      · rw [List.getElem?_eq_none (by simpa using hl)] at q; cases q
    by_cases h1 : i = j
    · by_cases h2 : i = k
      · rw [← h1, ← h2]
      · exfalso
        subst h1
        rw [List.getElem?_set_self (at_i q1)] at z1
        cases z1
        rw [List.getElem?_set_ne h2] at q2 z2
        exact hw ⟨k, m, e, q2, z2⟩
    · by_cases h2 : i = k
      · exfalso
        subst h2
        rw [List.getElem?_set_self (at_i q2)] at z2
        cases z2
        rw [List.getElem?_set_ne h1] at q1 z1
        exact hw ⟨j, n, d', q1, z1⟩
      · rw [List.getElem?_set_ne h1] at q1 z1
        rw [List.getElem?_set_ne h2] at q2 z2
        exact R.sep j k n m d' e p q1 q2 z1 z2
  keep0 := R.keep0
  grow0 := R.grow0
  new0 := R.new0
  live0 := R.live0
  bwl := R.bwl
def sSet (i : Nat) (f : M Rv) : SM := bndS f fun rv fs => match rv with
  | .val d => some (.nx, fs.set i (.dat d))
  | .fresh d => some (.nx, fs.set i (.own 0 d))
  | .slot j => match (Rv.slot j).fz fs with
    | some (d, fs1) => some (.nx, fs1.set i (.dat d))
    | none => none
theorem sim_set {t : TE} {i : Nat} (s : Sim X.K J X.mg W t (rV X.K) f) : SimS X.K J X.mg W (tAsg t (gName i)) (sSet i f) := by
  intro σ H S fs D r fs' R e p
  refine s.bindS R e p fun rv fs1 v H1 S1 R1 r1 e1 p1 st1 sh1 => ?_
  show D.nx (σ.set i (some v)) H1
  cases rv with
  | val d =>
    cases e1
    exact p1 _ H1 S1 (R1.putD i r1) (Same.refl _)
  | fresh d =>
    cases e1
    obtain ⟨l, rfl, e2, e3, e4, e5⟩ := r1
    refine p1 _ H1 S1 (R1.putO i e2 e3 ?_ e5) (Same.refl _)
    cases q : J.H0 l with
    | none => rfl
    | some o => exact absurd e4 (R.live0 l (by rw [q]; simp))
  | slot j =>
    dsimp only at e1
    split at e1
    · rename_i d fs2 q
      cases e1
      obtain ⟨S2, R3, st3, sh3, r3, st4⟩ := RvR.fz R1 r1 q R st1 sh1
      exact p1 _ H1 S2 (R3.putD i r3) st4.grow
    · cases e1
theorem fs_set {i : Nat} {x : Str} {pos' : Pos} (hN : X.N.Nodup) (he : FE X J W e f) (hi : X.N[i]? = some x := by rfl) (hx : Loc X.env.scope x := by first | exact Or.inl rfl | exact Or.inr rfl) (hs : swapsWith e (some (.Name x pos')) pos.line X.env = pure false := by rfl) (hf : X.fn x = true ∨ X.env.scope.names.lookup x = some .local := by first | exact .inl rfl | exact .inr rfl | assumption) :
    FS X J W (.Assign [.Name x pos'] e pos) (sSet i f) := by
  obtain ⟨t, p, s⟩ := he
  exact ⟨_, ps_set hN hi hx p hs hf, sim_set s⟩
end
end Fx

namespace Fx
open PySem PySem.Spec PyProof.Rows L2
/-! ### targets: an item comes as data (st), or as a pair that is taken apart at once -/
def RpK (st : Bool) (K : PySem.W.Frag) (S : Hp) (v : V) (d : D) : Prop := match st with
  | true => Rp K S v d
  | false => ∃ a xs ds, v = .ref a ∧ d = .tuple ds ∧ SqT K S a xs ∧ Rps K S xs ds
/-- off the slots `is` the same -/
def Off (is : List Nat) (σ σ' : St) : Prop := σ'.length = σ.length ∧ ∀ j, j ∉ is → σ'[j]? = σ[j]?
theorem Off.refl {is : List Nat} {σ : St} : Off is σ σ := ⟨rfl, fun _ _ => rfl⟩
theorem Off.trans {is js : List Nat} {a b c : St} (x : Off is a b) (y : Off js b c) : Off (is ++ js) a c :=
  ⟨y.1.trans x.1, fun j h => by rw [List.mem_append, not_or] at h; rw [y.2 j h.2, x.2 j h.1]⟩
theorem Off.set {i : Nat} {σ : St} {v : Option V} : Off [i] σ (σ.set i v) := ⟨List.length_set, fun j h => List.getElem?_set_ne (by simpa using fun e => h (by simp [e]))⟩
def SimG (K : PySem.W.Frag) (J : Inf) (st : Bool) (t : TG) (is : List Nat) (g : D → Fs → Option Fs) : Prop :=
  ∀ (σ : St) (H S : Hp) (fs : Fs) (v : V) (d : D) (fs' : Fs) (Q : St → Hp → Prop), Rel K J σ H S fs → RpK st K S v d → g d fs = some fs' → (∀ σ', Rel K J σ' H S fs' → Off is σ σ' → Shr fs fs' → Q σ' H) → t v σ H Q
def FG (X : Cx) (J : Inf) (st : Bool) (tg : Expr) (is : List Nat) (g : D → Fs → Option Fs) : Prop := ∃ t, PG X tg t ∧ SimG X.K J st t is g
def SimGs (K : PySem.W.Frag) (J : Inf) (t : TGs) (is : List Nat) (g : List D → Fs → Option Fs) : Prop :=
  ∀ (σ : St) (H S : Hp) (fs : Fs) (vs : List V) (ds : List D) (fs' : Fs) (Q : St → Hp → Prop), Rel K J σ H S fs → Rps K S vs ds → g ds fs = some fs' → (∀ σ', Rel K J σ' H S fs' → Off is σ σ' → Shr fs fs' → Q σ' H) → t vs σ H Q
def FGs (X : Cx) (J : Inf) (tgs : List Expr) (is : List Nat) (g : List D → Fs → Option Fs) : Prop := ∃ t, PGs X tgs t ∧ SimGs X.K J t is g
def kName (i : Nat) : D → Fs → Option Fs := fun d fs => some (fs.set i (.dat d))
def kNil : List D → Fs → Option Fs := fun ds fs => match ds with
  | [] => some fs
  | _ => none
def kCons (g : D → Fs → Option Fs) (h : List D → Fs → Option Fs) : List D → Fs → Option Fs := fun ds fs => match ds with
  | d :: r => match g d fs with
    | some fs1 => h r fs1
    | none => none
  | [] => none
def kTup (n : Nat) (h : List D → Fs → Option Fs) : D → Fs → Option Fs := fun d fs => match d with
  | .tuple ds => if ds.length = n then h ds fs else none
  | _ => none
section
variable {X : Cx} {J : Inf} {W : WX} {g : D → Fs → Option Fs} {h : List D → Fs → Option Fs} {pos : Pos}
theorem fg_name {i : Nat} {x : Str} (hN : X.N.Nodup) (hi : X.N[i]? = some x := by rfl) (hx : Loc X.env.scope x := by first | exact Or.inl rfl | exact Or.inr rfl) (hf : X.fn x = true ∨ X.env.scope.names.lookup x = some .local := by first | exact .inl rfl | exact .inr rfl | assumption) : FG X J true (.Name x pos) [i] (kName i) :=
  ⟨_, pg_name hN hi hx hf, fun σ H S fs v d fs' Q R r e q => by cases e; exact q _ (R.putD i r) Off.set (Shr.set fun n d' z => by cases z)⟩
theorem fgs_nil : FGs X J [] [] kNil := ⟨_, pgs_nil, fun σ H S fs vs ds fs' Q R r e q => by
  cases ds with
  | nil => cases r; cases e; exact ⟨rfl, q σ R Off.refl (Shr.refl _)⟩
  | cons d ds => cases e⟩
theorem fgs_cons {e : Expr} {es : List Expr} {is js : List Nat} (h1 : FG X J true e is g) (h2 : FGs X J es js h) (hs : (assignEach (e :: es) X.env).map (·.2) = assign e X.env :: (assignEach es X.env).map (·.2) := by rfl) : FGs X J (e :: es) (is ++ js) (kCons g h) := by
  obtain ⟨t, p, s⟩ := h1
  obtain ⟨u, p', s'⟩ := h2
  refine ⟨_, pgs_cons p p' hs, fun σ H S fs vs ds fs' Q R r e q => ?_⟩
  cases r with
  | nil => cases e
  | cons r1 r2 =>
    simp only [kCons] at e
    split at e
    · rename_i fs1 q1
      exact ⟨_, _, rfl, s σ H S fs _ _ fs1 _ R r1 q1 fun σ1 R1 o1 h1 => s' σ1 H S fs1 _ _ fs' Q R1 r2 e fun σ2 R2 o2 h2 => q σ2 R2 (o1.trans o2) (h1.trans h2)⟩
    · cases e
theorem fg_tup {es : List Expr} {k n : Nat} {st : Bool} {is : List Nat} (hc : X.calm = true) (h1 : FGs X J es is h) (hn : (assignEach es X.env).length = n := by rfl) (hst : (assignEach es X.env).findIdx? (·.1) = none := by rfl) : FG X J st (.Tuple es k pos) is (kTup n h) := by
  obtain ⟨t, p, s⟩ := h1
  refine ⟨_, pg_tup hc p hn hst, fun σ H S fs v d fs' Q R r e q => ?_⟩
  have key : ∀ {a : Addr} {xs : List V} {ds : List D}, v = .ref a → d = .tuple ds → SqT X.K S a xs → Rps X.K S xs ds → gTup X.K n t v σ H Q := fun {a xs ds} e1 e2 q1 q2 => by
    subst e1 e2
    simp only [kTup] at e
    split at e
    · rename_i hl
      exact ⟨a, xs, rfl, Same.seqT R.sub q1, by rw [q2.length]; exact hl, s σ H S fs xs ds fs' Q R q2 e q⟩
    · cases e
  cases st with
  | true =>
    have r' : Rp X.K S v d := r
    cases r' with
    | tup q1 _ q2 => exact key rfl rfl q1 q2
    | _ => exact absurd e (by simp [kTup])
  | false =>
    obtain ⟨a, xs, ds, e1, e2, q1, q2⟩ := r
    exact key e1 e2 q1 q2
/-- (a, b, ..) = e -/
def sUnp (f : M D) (g : D → Fs → Option Fs) : SM := bndS f fun d fs => match g d fs with
  | some fs1 => some (.nx, fs1)
  | none => none
theorem fs_unp {tg e : Expr} {f : M Rv} {is : List Nat} (he : FE X J W e f) (hg : FG X J true tg is g) (hs : swapsWithSole [tg] e pos.line X.env = pure false := by rfl) (hw : swappedStores [tg] e X.env = pure none := by rfl)
    (h1 : (assignEach [tg] X.env).map (·.2) = [assign tg X.env] := by rfl) : FS X J W (.Assign [tg] e pos) (sUnp (fD f) g) := by
  obtain ⟨t, p, s⟩ := he.d
  obtain ⟨u, p', s'⟩ := hg
  refine ⟨_, ps_asg p p' hs hw h1, fun σ H S fs D r fs' R e p => ?_⟩
  refine s.bindS R e p fun d fs1 v H1 S1 R1 r1 e1 p1 _ _ => ?_
  try dsimp only at e1
  split at e1
  · rename_i fs2 q
    cases e1
    exact s' σ H1 S1 fs1 v d _ _ R1 r1 q fun σ' R' _ _ => p1 σ' H1 S1 R' (Same.refl _)
  · cases e1
/-- a, b = x, y -/
def sPar (i j : Nat) (f : M (List D)) : SM := bndS f fun ds fs => match ds with
  | [d, e] => some (.nx, (fs.set i (.dat d)).set j (.dat e))
  | _ => none
theorem fs_par {i j : Nat} {x y : Str} {a b : Expr} {f : M (List D)} {px py pt : Pos} {kt k2 pt2} (hc : X.calm = true) (hN : X.N.Nodup) (hij : i ≠ j) (ha : FDs X J W [a, b] f) (hi : X.N[i]? = some x := by rfl) (hj : X.N[j]? = some y := by rfl)
    (hx : X.env.scope.names.lookup x = some .local := by rfl) (hy : X.env.scope.names.lookup y = some .local := by rfl)
    (hw : swappedStores [.Tuple [.Name x px, .Name y py] kt pt] (.Tuple [a, b] k2 pt2) X.env = pure (some [x, y]) := by rfl)
    (hs : swapsWithSole [.Tuple [.Name x px, .Name y py] kt pt] (.Tuple [a, b] k2 pt2) pos.line X.env = pure false := by rfl) :
    FS X J W (.Assign [.Tuple [.Name x px, .Name y py] kt pt] (.Tuple [a, b] k2 pt2) pos) (sPar i j f) := by
  obtain ⟨t, p, s⟩ := ha
  refine ⟨_, ps_par hc hN hi hj hij hx hy p hw hs, fun σ H S fs D r fs' R e p => ?_⟩
  refine s.bindS R e p fun ds fs1 vs H1 S1 R1 r1 e1 p1 _ _ => ?_
  try dsimp only at e1
  split at e1
  · cases e1
    cases r1 with
    | cons q1 r1 =>
      cases r1 with
      | cons q2 r1 =>
        cases r1
        exact ⟨_, _, rfl, p1 _ H1 S1 ((R1.putD i q1).putD j q2) (Same.refl _)⟩
  · cases e1
end

/-! ### what is walked -/
structure ItOk (st : Bool) (K : PySem.W.Frag) (S : Hp) (it : It) (ds : List D) : Prop where
  go : ∀ (i : Nat) (H S' : Hp), i < ds.length → Same S S' → Same S' H → it.go i H
  yld : ∀ (i : Nat) (H S' : Hp) (x : V) (H' : Hp), i < ds.length → Same S S' → Same S' H → it.yld i H x H' → ∃ S'' d, ds[i]? = some d ∧ Stp (fun _ => False) (fun _ => False) H S' H' S'' ∧ Same S'' H' ∧ RpK st K S'' x d
  stop : ∀ (H S' : Hp), Same S S' → Same S' H → it.stop ds.length H
theorem ItOk.mono {st : Bool} {K : PySem.W.Frag} {S S1 : Hp} {it : It} {ds : List D} (h : ItOk st K S it ds) (s : Same S S1) : ItOk st K S1 it ds :=
  ⟨fun i H S' a b c => h.go i H S' a (s.trans b) c, fun i H S' x H' a b c d => h.yld i H S' x H' a (s.trans b) c d, fun H S' b c => h.stop H S' (s.trans b) c⟩
abbrev rI (st : Bool) (K : PySem.W.Frag) : RT It (List D) := fun _ _ _ _ S it ds => ItOk st K S it ds
instance {st : Bool} {K : PySem.W.Frag} : Early (rI st K) := ⟨fun _ r => r⟩
def FI (X : Cx) (J : Inf) (W : WX) (st : Bool) (tg iter : Expr) (f : M (List D)) : Prop := ∃ wi, PI X tg iter wi ∧ Sim X.K J X.mg W wi (rI st X.K) f
def asL : D → M (List D) := fun d fs => match d with
  | .list ds => some (.inr ds, fs)
  | _ => none
def asT : D → M (List D) := fun d fs => match d with
  | .tuple ds => some (.inr ds, fs)
  | _ => none
section
variable {X : Cx} {J : Inf} {W : WX} {tg e e2 : Expr} {f g : M Rv} {pos p : Pos}
theorem it_list {K : PySem.W.Frag} {S : Hp} {a : Addr} {xs : List V} {ds : List D} (h : SqL K S a xs) (r : Rps K S xs ds) (inj : ∀ H ys, Same S H → SqL K H a ys → ys = xs) : ItOk true K S (Itl K a) ds where
  go := fun i H S' hi s1 s2 => ⟨xs, xs[i]'(by rw [r.length]; exact hi), L2.Same.seq (s1.trans s2) h, by simp⟩
  yld := fun i H S' x H' hi s1 s2 y => by
    obtain ⟨e, y⟩ := y
    subst e
    have q := y xs (L2.Same.seq (s1.trans s2) h)
    obtain ⟨d, h1, h2⟩ := r.get' q
    exact ⟨S', d, h1, Stp.refl, s2, h2.mono s1⟩
  stop := fun H S' s1 s2 => ⟨xs, L2.Same.seq (s1.trans s2) h, by rw [r.length]; exact Nat.le_refl _⟩
theorem it_list' {K : PySem.W.Frag} {S : Hp} {a : Addr} {xs : List V} {ds : List D} (h : SqL K S a xs) (r : Rps K S xs ds) : ItOk true K S (Itl K a) ds where
  go := fun i H S' hi s1 s2 => ⟨xs, xs[i]'(by rw [r.length]; exact hi), L2.Same.seq (s1.trans s2) h, by simp⟩
  yld := fun i H S' x H' hi s1 s2 y => by
    obtain ⟨e, y⟩ := y
    subst e
    have q := y xs (L2.Same.seq (s1.trans s2) h)
    obtain ⟨d, h1, h2⟩ := r.get' q
    exact ⟨S', d, h1, Stp.refl, s2, h2.mono s1⟩
  stop := fun H S' s1 s2 => ⟨xs, L2.Same.seq (s1.trans s2) h, by rw [r.length]; exact Nat.le_refl _⟩
theorem it_tup {K : PySem.W.Frag} {S : Hp} {a : Addr} {xs : List V} {ds : List D} (h : SqT K S a xs) (r : Rps K S xs ds) : ItOk true K S (Itt K a) ds where
  go := fun i H S' hi s1 s2 => ⟨xs, xs[i]'(by rw [r.length]; exact hi), Same.seqT (s1.trans s2) h, by simp⟩
  yld := fun i H S' x H' hi s1 s2 y => by
    obtain ⟨e, y⟩ := y
    subst e
    have q := y xs (Same.seqT (s1.trans s2) h)
    obtain ⟨d, h1, h2⟩ := r.get' q
    exact ⟨S', d, h1, Stp.refl, s2, h2.mono s1⟩
  stop := fun H S' s1 s2 => ⟨xs, Same.seqT (s1.trans s2) h, by rw [r.length]; exact Nat.le_refl _⟩
def fiL (f : M D) : M (List D) := bnd f asL
def fiT (f : M D) : M (List D) := bnd f asT
theorem fi_list (he : FE X J W e f) : FI X J W true tg e (fiL (fD f)) := by
  obtain ⟨t, p, s⟩ := he.d
  refine ⟨_, pi_list p, fun σ H S fs Q res fs' R e p => ?_⟩
  refine s.bind R e p fun d fs1 v H1 S1 R1 r1 e1 p1 _ _ => ?_
  unfold asL at e1
  split at e1
  · cases e1
    cases r1 with
    | lst q r => exact ⟨_, rfl, ⟨_, SqL.of (R1.sub _ _ q)⟩, p1.here R1 (it_list' (SqL.of q) r)⟩
  · cases e1
theorem fi_tup (he : FE X J W e f) : FI X J W true tg e (fiT (fD f)) := by
  obtain ⟨t, p, s⟩ := he.d
  refine ⟨_, pi_tup p, fun σ H S fs Q res fs' R e p => ?_⟩
  refine s.bind R e p fun d fs1 v H1 S1 R1 r1 e1 p1 _ _ => ?_
  unfold asT at e1
  split at e1
  · cases e1
    cases r1 with
    | tup q _ r => exact ⟨_, rfl, ⟨_, Same.seqT R1.sub q⟩, p1.here R1 (it_tup q r)⟩
  · cases e1
/-- lo, lo + 1, .. -/
def rng (lo : Int) (n : Nat) : List D := (List.range n).map fun i => .int (lo + (i : Nat))
theorem rng_length (lo : Int) (n : Nat) : (rng lo n).length = n := by unfold rng; rw [List.length_map, List.length_range]
theorem rng_get {lo : Int} {n i : Nat} (h : i < n) : (rng lo n)[i]? = some (.int (lo + (i : Nat))) := by
  unfold rng
  rw [List.getElem?_map, List.getElem?_range h]
  rfl
theorem it_rng {K : PySem.W.Frag} {S : Hp} {lo : Int} {n : Nat} : ItOk true K S (Itr lo n) (rng lo n) where
  go := fun i H S' hi _ _ => by rw [rng_length] at hi; exact hi
  yld := fun i H S' x H' hi s1 s2 y => by
    rw [rng_length] at hi
    obtain ⟨e, y⟩ := y
    subst e y
    exact ⟨S', _, rng_get hi, Stp.refl, s2, Rp.int _⟩
  stop := fun H S' _ _ => by rw [rng_length]; exact Nat.le_refl _
/-- small -/
def smI (j : Int) : Bool := decide (j.natAbs < 4611686018427387904)
theorem smI_iff {j : Int} (h : smI j = true) : -(2 ^ 62) ≤ j ∧ j < 2 ^ 62 := by
  have := of_decide_eq_true h
  omega
theorem smI_of {j : Int} (h : -4611686018427387904 < j) (h2 : j < 4611686018427387904) : smI j = true := decide_eq_true (by omega)
def fiR1 (f : M (List D)) : M (List D) := bnd f fun ds fs => match ds with
  | [.int j] => bif smI j then some (.inr (rng 0 j.toNat), fs) else none
  | _ => none
def fiR2 (f : M (List D)) : M (List D) := bnd f fun ds fs => match ds with
  | [.int i, .int j] => bif smI i && smI j then some (.inr (rng i (j - i).toNat), fs) else none
  | _ => none
theorem fi_range1 {gs : M (List D)} (hg : Gl X "range") (hm : X.mg "range" = none) (ha : FDs X J W [e] gs) (hs : starEach [e] X.env = [(false, eval e X.env)] := by rfl) : FI X J W true tg (.Call (.Name "range" p) [e] [] pos) (fiR1 gs) := by
  obtain ⟨t, pa, s⟩ := ha
  refine ⟨_, pi_range1 hg hm pa hs, fun σ H S fs Q res fs' R e p => ?_⟩
  refine s.bind R e p fun ds fs1 v H1 S1 R1 r1 e1 p1 _ _ => ?_
  try dsimp only at e1
  split at e1
  · rename_i j
    cases h : smI j with
    | true =>
      rw [h] at e1
      cases e1
      cases r1 with
      | cons q1 r1 =>
        cases r1
        cases q1
        exact ⟨_, rfl, (smI_iff h).1, (smI_iff h).2, p1.here R1 it_rng⟩
    | false => rw [h] at e1; cases e1
  · cases e1
theorem fi_range2 {gs : M (List D)} (hg : Gl X "range") (hm : X.mg "range" = none) (ha : FDs X J W [e, e2] gs) (hs : starEach [e, e2] X.env = [(false, eval e X.env), (false, eval e2 X.env)] := by rfl) (hs2 : starEach [e2] X.env = [(false, eval e2 X.env)] := by rfl) : FI X J W true tg (.Call (.Name "range" p) [e, e2] [] pos) (fiR2 gs) := by
  obtain ⟨t, pa, s⟩ := ha
  refine ⟨_, pi_range2 hg hm pa hs hs2, fun σ H S fs Q res fs' R e p => ?_⟩
  refine s.bind R e p fun ds fs1 v H1 S1 R1 r1 e1 p1 _ _ => ?_
  try dsimp only at e1
  split at e1
  · rename_i i j
    cases h : smI i && smI j with
    | true =>
      rw [h] at e1
      cases e1
      rw [Bool.and_eq_true] at h
      cases r1 with
      | cons q1 r1 =>
        cases r1 with
        | cons q2 r1 =>
          cases r1
          cases q1
          cases q2
          exact ⟨_, _, rfl, ⟨(smI_iff h.1).1, (smI_iff h.1).2, (smI_iff h.2).1, (smI_iff h.2).2⟩, p1.here R1 it_rng⟩
    | false => rw [h] at e1; cases e1
  · cases e1
end

/-! ### for -/
def forL (g : D → Fs → Option Fs) (b : SM) : List D → SM
  | [], fs => some (.nx, fs)
  | d :: ds, fs => match g d fs with
    | none => none
    | some fs1 => match b fs1 with
      | none => none
      | some (.nx, fs2) => forL g b ds fs2
      | some (.ct, fs2) => forL g b ds fs2
      | some (.bk, fs2) => some (.nx, fs2)
      | some (r, fs2) => some (r, fs2)
def sFor (f : M (List D)) (g : D → Fs → Option Fs) (b : SM) : SM := bndS f fun ds => forL g b ds
section
variable {X : Cx} {J : Inf} {W : WX} {st : Bool} {tg iter : Expr} {body : List Stmt} {f : M (List D)} {g : D → Fs → Option Fs} {b : SM} {pos : Pos}
theorem forL_run {is : List Nat} {K : PySem.W.Frag} {mg : Str → Option Value} {it : It} {ds : List D} {S : Hp} {tG : TG} {tB : TS} {D : Ends} {r : Fl} {fs' : Fs} (ok : ItOk st K S it ds) (sg : SimG K J st tG is g) (sb : SimS K J mg W tB b)
    (p : PostS K J mg W D S r fs') {σ : St} {H : Hp} {fs : Fs} (R : Rel K J σ H S fs) (e : forL g b ds fs = some (r, fs')) :
    ∃ Wv : Nat → Nat → St → Hp → Prop, (∃ m, Wv 0 m σ H) ∧ ∀ i m σ H, Wv i m σ H →
      (it.stop i H ∧ D.nx σ H) ∨ (it.go i H ∧ ∃ N : St → Hp → Prop, (∀ σ' H', N σ' H' → ∃ m', m' < m ∧ Wv (i + 1) m' σ' H') ∧ ∀ x H', it.yld i H x H' → tG x σ H' fun σ2 H2 => tB { D with nx := N, ct := N, bk := D.nx } σ2 H2) := by
  refine ⟨fun i m σ H => m = ds.length - i ∧ i ≤ ds.length ∧ ∃ S1 fs1, Same S S1 ∧ Rel K J σ H S1 fs1 ∧ forL g b (ds.drop i) fs1 = some (r, fs'), ⟨ds.length, by simp, Nat.zero_le _, S, fs, Same.refl _, R, by simpa using e⟩, ?_⟩
  rintro i m σ1 H1 ⟨rfl, hi, S1, fs1, gr, R1, e1⟩
  by_cases hlt : i < ds.length
  · refine .inr ⟨ok.go i H1 S1 hlt gr R1.sub, fun σ' H' => ∃ S2 fs2, Same S S2 ∧ Rel K J σ' H' S2 fs2 ∧ forL g b (ds.drop (i + 1)) fs2 = some (r, fs'), ?_, ?_⟩
    · rintro σ' H' ⟨S2, fs2, gr2, R2, e2⟩
      exact ⟨ds.length - (i + 1), by omega, rfl, hlt, S2, fs2, gr2, R2, e2⟩
    · intro x H' y
      obtain ⟨S2, d, hd, st2, sub2, rp⟩ := ok.yld i H1 S1 x H' hlt gr R1.sub y
      have R2 := R1.grown st2 sub2
      have gr2 := gr.trans st2.grow
      have ed : ds.drop i = d :: ds.drop (i + 1) := by
        rw [← List.getElem_cons_drop hlt]
        congr 1
        rw [List.getElem?_eq_getElem hlt] at hd
        exact Option.some.inj hd
      rw [ed] at e1
      simp only [forL] at e1
      split at e1
      · cases e1
      · rename_i fs3 q3
        refine sg σ1 H' S2 fs1 x d fs3 _ R2 rp q3 fun σ3 R3 _ _ => ?_
        have fin : ∀ {r' : Fl} {fs4 : Fs}, b fs3 = some (r', fs4) → (∀ σ' H' S', Rel K J σ' H' S' fs4 → Same S2 S' → match r' with
            | .nx => ∃ S2 fs2, Same S S2 ∧ Rel K J σ' H' S2 fs2 ∧ forL g b (ds.drop (i + 1)) fs2 = some (r, fs')
            | .bk => D.nx σ' H'
            | .ct => ∃ S2 fs2, Same S S2 ∧ Rel K J σ' H' S2 fs2 ∧ forL g b (ds.drop (i + 1)) fs2 = some (r, fs')
            | .ret fr d => ∀ v, RetJ K J S' H' v fr d → D.rt v H'
            | .ex c => ∀ C, mg c = some (.ref C) → W (.ref C) none σ' H') → tB { D with nx := fun σ' H' => ∃ S2 fs2, Same S S2 ∧ Rel K J σ' H' S2 fs2 ∧ forL g b (ds.drop (i + 1)) fs2 = some (r, fs'), ct := fun σ' H' => ∃ S2 fs2, Same S S2 ∧ Rel K J σ' H' S2 fs2 ∧ forL g b (ds.drop (i + 1)) fs2 = some (r, fs'), bk := D.nx } σ3 H' := fun {r' fs4} q k => by
          refine sb σ3 H' S2 fs3 _ r' fs4 R3 q fun σ' H' S' R' gr' => ?_
          have z := k σ' H' S' R' gr'
          cases r' <;> exact z
        split at e1
        · cases e1
        · rename_i fs4 q4
          exact fin q4 fun σ' H' S' R' gr' => ⟨S', fs4, gr2.trans gr', R', e1⟩
        · rename_i fs4 q4
          exact fin q4 fun σ' H' S' R' gr' => ⟨S', fs4, gr2.trans gr', R', e1⟩
        · rename_i fs4 q4
          cases e1
          exact fin q4 fun σ' H' S' R' gr' => p σ' H' S' R' (gr2.trans gr')
        · rename_i r4 fs4 n1 n2 n3 q4
          cases e1
          refine fin q4 fun σ' H' S' R' gr' => ?_
          have z := p σ' H' S' R' (gr2.trans gr')
          cases r with
          | nx => exact absurd rfl n1
          | bk => exact absurd rfl n3
          | ct => exact absurd rfl n2
          | ret fr d => exact z
          | ex c => exact z
  · have ei : i = ds.length := by omega
    subst ei
    rw [List.drop_length] at e1
    cases e1
    exact .inl ⟨ok.stop H1 S1 gr R1.sub, p σ1 H1 S1 R1 gr⟩
theorem fs_for {is : List Nat} (hp : PassesOwn (model X.prog X.w) X.A X.env X.xe) (hc : X.calm = true) (hi : FI X J W st tg iter f) (hg : FG X J st tg is g) (hb : FSs X J W body b) (hs : ∀ x, foldedSetIterable iter X.env x = pure x := by intro _; rfl) :
    FS X J W (.For tg iter body [] pos) (sFor f g b) := by
  obtain ⟨wi, pi, si⟩ := hi
  obtain ⟨tG, pg, sg⟩ := hg
  obtain ⟨tB, pb, sb⟩ := hb
  refine ⟨_, ps_for hp hc pi pg pb hs, fun σ H S fs D r fs' R e p => ?_⟩
  exact si.bindS R e p fun ds fs1 it H1 S1 R1 r1 e1 p1 _ _ => forL_run r1 sg sb p1 R1 e1

/-! ### while -/
/-- a turn, then k -/
def wStep (c : M Bool) (b : SM) (k : SM) : SM := fun fs => match c fs with
  | none => none
  | some (.inl e, fs1) => some (.ex e, fs1)
  | some (.inr false, fs1) => some (.nx, fs1)
  | some (.inr true, fs1) => match b fs1 with
    | none => none
    | some (.nx, fs2) => k fs2
    | some (.ct, fs2) => k fs2
    | some (.bk, fs2) => some (.nx, fs2)
    | some (r, fs2) => some (r, fs2)
theorem wStep_mono {c : M Bool} {b k k' : SM} (hk : ∀ fs r, k fs = some r → k' fs = some r) {fs : Fs} {r : Fl × Fs} (h : wStep c b k fs = some r) : wStep c b k' fs = some r := by
  unfold wStep at h ⊢
  split at h
  · cases h
  · exact h
  · exact h
  · split at h
    · cases h
    · exact hk _ _ h
    · exact hk _ _ h
    · exact h
    · exact h
def whileN (c : M Bool) (b : SM) : Nat → SM
  | 0 => fun _ => none
  | n + 1 => wStep c b (whileN c b n)
theorem whileN_succ {c : M Bool} {b : SM} : ∀ {n : Nat} (fs : Fs) (r : Fl × Fs), whileN c b n fs = some r → whileN c b (n + 1) fs = some r
  | 0, _, _, h => by cases h
  | _ + 1, _, _, h => wStep_mono (fun fs r => whileN_succ fs r) h
theorem whileN_mono {c : M Bool} {b : SM} {n : Nat} {fs : Fs} {r : Fl × Fs} (h : whileN c b n fs = some r) : ∀ k, whileN c b (n + k) fs = some r
  | 0 => h
  | k + 1 => whileN_succ fs r (whileN_mono h k)
open Classical in
/-- the loop: what some number of turns gives -/
noncomputable def sWhile (c : M Bool) (b : SM) : SM := fun fs => if h : ∃ n r, whileN c b n fs = some r then some (choose (choose_spec h)) else none
theorem sWhile_of {c : M Bool} {b : SM} {n : Nat} {fs : Fs} {r : Fl × Fs} (h : whileN c b n fs = some r) : sWhile c b fs = some r := by
  have hx : ∃ n r, whileN c b n fs = some r := ⟨n, r, h⟩
  unfold sWhile
  rw [dif_pos hx]
  have h2 := Classical.choose_spec (Classical.choose_spec hx)
  have a := whileN_mono h (Classical.choose hx)
  have b := whileN_mono h2 n
  rw [Nat.add_comm] at b
  rw [a] at b
  exact b.symm
theorem of_sWhile {c : M Bool} {b : SM} {fs : Fs} {r : Fl × Fs} (h : sWhile c b fs = some r) : ∃ n, whileN c b n fs = some r := by
  unfold sWhile at h
  split at h
  · rename_i hx
    cases h
    exact ⟨_, Classical.choose_spec (Classical.choose_spec hx)⟩
  · cases h
theorem wStep_fin {c : M Bool} {b k : SM} {fs : Fs} {r : Fl × Fs} (hk : ∀ fs r, k fs = some r → ∃ n, whileN c b n fs = some r) (h : wStep c b k fs = some r) : ∃ n, whileN c b n fs = some r := by
  have h' := h
  unfold wStep at h
  split at h
  · cases h
  · rename_i q; exact ⟨1, by simp only [whileN, wStep, q]; exact h⟩
  · rename_i q; exact ⟨1, by simp only [whileN, wStep, q]; exact h⟩
  · rename_i fs1 q
    split at h
    · cases h
    · rename_i fs2 q2
      obtain ⟨n, hn⟩ := hk _ _ h
      exact ⟨n + 1, by simp only [whileN, wStep, q, q2]; exact hn⟩
    · rename_i fs2 q2
      obtain ⟨n, hn⟩ := hk _ _ h
      exact ⟨n + 1, by simp only [whileN, wStep, q, q2]; exact hn⟩
    · rename_i fs2 q2; exact ⟨1, by simp only [whileN, wStep, q, q2]; exact h⟩
    · rename_i r2 fs2 n1 n2 n3 q2
      refine ⟨1, ?_⟩
      simp only [whileN, wStep, q, q2]
      cases r2 with
      | nx => exact absurd rfl n1
      | ct => exact absurd rfl n2
      | bk => exact absurd rfl n3
      | ret fr d => exact h
      | ex c => exact h
/-- one turn -/
theorem sWhile_eq (c : M Bool) (b : SM) (fs : Fs) : sWhile c b fs = wStep c b (sWhile c b) fs := by
  cases q : wStep c b (sWhile c b) fs with
  | some r =>
    obtain ⟨n, hn⟩ := wStep_fin (fun fs r => of_sWhile) q
    exact sWhile_of hn
  | none =>
    cases q2 : sWhile c b fs with
    | none => rfl
    | some r =>
      obtain ⟨n, hn⟩ := of_sWhile q2
      cases n with
      | zero => cases hn
      | succ n =>
        rw [wStep_mono (fun fs r => sWhile_of (n := n)) hn] at q
        cases q
theorem fs_while {c : Expr} {fc : M Bool} (hp : PassesOwn (model X.prog X.w) X.A X.env X.xe) (hc : FT X J W c fc) (hb : FSs X J W body b) : FS X J W (.While c body [] pos) (sWhile fc b) := by
  obtain ⟨tc, pc, sc⟩ := hc
  obtain ⟨tB, pb, sb⟩ := hb
  refine ⟨_, ps_while hp pc pb, fun σ H S fs D r fs' R e p => ?_⟩
  obtain ⟨n, hn⟩ := of_sWhile e
  refine ⟨fun m σ H => ∃ S1 fs1, Same S S1 ∧ Rel X.K J σ H S1 fs1 ∧ whileN fc b m fs1 = some (r, fs'), ⟨n, S, fs, Same.refl _, R, hn⟩, ?_⟩
  rintro m σ1 H1 ⟨S1, fs1, gr, R1, e1⟩
  cases m with
  | zero => cases e1
  | succ m =>
    unfold whileN wStep at e1
    have ex : bndS fc (fun k fs2 => match k with
        | false => some (.nx, fs2)
        | true => match b fs2 with
          | none => none
          | some (.nx, fs2) => whileN fc b m fs2
          | some (.ct, fs2) => whileN fc b m fs2
          | some (.bk, fs2) => some (.nx, fs2)
          | some (r, fs2) => some (r, fs2)) fs1 = some (r, fs') := by
      unfold bndS
      cases hq : fc fs1 with
      | none => rw [hq] at e1; cases e1
      | some z =>
        rw [hq] at e1
        obtain ⟨z1, z2⟩ := z
        cases z1 with
        | inl c => exact e1
        | inr k => cases k <;> exact e1
    refine sc.bindS R1 ex (p.next gr) fun k fs2 k' H2 S2 R2 r2 e2 p2 st2 _ => ?_
    cases r2
    cases k with
    | false =>
      rw [if_neg Bool.false_ne_true]
      cases e2
      exact p2 σ1 H2 S2 R2 (Same.refl _)
    | true =>
      rw [if_pos rfl]
      have gr2 := gr.trans st2.grow
      refine ⟨fun σ' H' => ∃ S2 fs2, Same S S2 ∧ Rel X.K J σ' H' S2 fs2 ∧ whileN fc b m fs2 = some (r, fs'), fun σ' H' ⟨S3, fs3, g3, R3, e3⟩ => ⟨m, Nat.lt_succ_self _, S3, fs3, g3, R3, e3⟩, ?_⟩
      have fin : ∀ {r' : Fl} {fs4 : Fs}, b fs2 = some (r', fs4) → (∀ σ' H' S', Rel X.K J σ' H' S' fs4 → Same S2 S' → match r' with
          | .nx => ∃ S2 fs2, Same S S2 ∧ Rel X.K J σ' H' S2 fs2 ∧ whileN fc b m fs2 = some (r, fs')
          | .bk => D.nx σ' H'
          | .ct => ∃ S2 fs2, Same S S2 ∧ Rel X.K J σ' H' S2 fs2 ∧ whileN fc b m fs2 = some (r, fs')
          | .ret fr d => ∀ v, RetJ X.K J S' H' v fr d → D.rt v H'
          | .ex c => ∀ C, X.mg c = some (.ref C) → W (.ref C) none σ' H') → tB { D with nx := fun σ' H' => ∃ S2 fs2, Same S S2 ∧ Rel X.K J σ' H' S2 fs2 ∧ whileN fc b m fs2 = some (r, fs'), ct := fun σ' H' => ∃ S2 fs2, Same S S2 ∧ Rel X.K J σ' H' S2 fs2 ∧ whileN fc b m fs2 = some (r, fs'), bk := D.nx } σ1 H2 := fun {r' fs4} q k => by
        refine sb σ1 H2 S2 fs2 _ r' fs4 R2 q fun σ' H' S' R' gr' => ?_
        have z := k σ' H' S' R' gr'
        cases r' <;> exact z
      dsimp only at e2
      split at e2
      · cases e2
      · rename_i fs4 q4
        exact fin q4 fun σ' H' S' R' gr' => ⟨S', fs4, gr2.trans gr', R', e2⟩
      · rename_i fs4 q4
        exact fin q4 fun σ' H' S' R' gr' => ⟨S', fs4, gr2.trans gr', R', e2⟩
      · rename_i fs4 q4
        cases e2
        exact fin q4 fun σ' H' S' R' gr' => p2 σ' H' S' R' gr'
      · rename_i r4 fs4 n1 n2 n3 q4
        cases e2
        refine fin q4 fun σ' H' S' R' gr' => ?_
        have z := p2 σ' H' S' R' gr'
        cases r with
        | nx => exact absurd rfl n1
        | bk => exact absurd rfl n3
        | ct => exact absurd rfl n2
        | ret fr d => exact z
        | ex c => exact z
end
end Fx

namespace Fx
open PySem PySem.Spec PyProof.Rows L2
/-! ### a def, by its body -/
def outs (k : Nat) : Nat → Fs → List Sl
  | _, [] => []
  | j, s :: r => if j = k then [] else (match s with
    | .own n d => if n = j + 1 then .own n d else .no
    | _ => .no) :: outs k (j + 1) r
def okArgs : Nat → List Sl → Bool
  | _, [] => true
  | j, .own n _ :: r => n == j + 1 && okArgs (j + 1) r
  | j, .dat _ :: r => okArgs (j + 1) r
  | _, .no :: _ => false
def mkFn (k N : Nat) (g : SM) : Fn := fun as => if as.length = k then
    match g (as ++ List.replicate (N - k) .no) with
    | some (.nx, fs) => some (.inr (false, .none), outs k 0 fs)
    | some (.ret fr d, fs) => some (.inr (fr, d), outs k 0 fs)
    | some (.ex c, fs) => some (.inl c, outs k 0 fs)
    | _ => none
  else none
theorem outs_get {k : Nat} : ∀ {j : Nat} {fs : Fs} {i n : Nat} {d : D}, (outs k j fs)[i]? = some (.own n d) → fs[i]? = some (.own n d) ∧ n = j + i + 1
  | _, [], _, _, _, h => by simp [outs] at h
  | j, s :: r, i, n, d, h => by
    simp only [outs] at h
    split at h
    · simp at h
    · cases i with
      | zero =>
        simp only [List.getElem?_cons_zero] at h
        split at h
        · split at h
          · rename_i hn
            cases h
            exact ⟨rfl, by omega⟩
          · cases h
        · cases h
      | succ i =>
        simp only [List.getElem?_cons_succ] at h ⊢
        obtain ⟨h1, h2⟩ := outs_get h
        exact ⟨h1, by omega⟩
section
variable {P : Program} {w : World} {K : PySem.W.Frag} {mg : Str → Option Value} {base : Heap}
/-- the entry -/
def infOf (vs : List V) (as : List Sl) (H S : Hp) : Inf where
  B := fun j => match as[j]?, vs[j]? with
    | some (.own _ _), some (.ref p) => some p
    | _, _ => none
  H0 := H
  S0 := S
theorem rel_start {S H : Hp} {vs : List V} {as : List Sl} {N : List Str} (sub : Same S H) (A : ArgR K S H vs as) (hN : vs.length ≤ N.length) : Rel K (infOf vs as H S) (L2.start N vs) H S (as ++ List.replicate (N.length - vs.length) .no) := by
  have lv : ∀ {i : Nat} {s : Sl}, s ≠ .no → (as ++ List.replicate (N.length - vs.length) Sl.no)[i]? = some s → as[i]? = some s := fun {i s} hs h => by
    by_cases hi : i < as.length
    · rwa [List.getElem?_append_left hi] at h
    · rw [List.getElem?_append_right (by omega), List.getElem?_replicate] at h
      split at h
      · cases h; exact absurd rfl hs
      · cases h
  have sv : ∀ {i : Nat} {v : V}, vs[i]? = some v → (L2.start N vs)[i]? = some (some v) := fun {i v} h => by
    have hi := (List.getElem?_eq_some_iff.mp h).1
    unfold L2.start
    rw [List.getElem?_append_left (by rw [List.length_map]; exact hi), List.getElem?_map, h]
    rfl
  refine ⟨sub, ?_, fun i d h => ?_, fun i n d h => ?_, fun i j n m d e p h1 h2 h3 h4 => ?_, fun a o e _ => e, Same.refl _, fun a h => .inl h, fun a h => h, fun a ⟨j, hj⟩ => ?_⟩
  · unfold L2.start
    rw [List.length_append, List.length_append, List.length_map, List.length_replicate, List.length_replicate, A.len]
  · obtain ⟨v, h1, h2⟩ := A.dat i d (lv (by simp) h)
    exact ⟨v, sv h1, h2⟩
  · have h' := lv (by simp) h
    obtain ⟨e, p, h1, h2, h3⟩ := A.own i n d h'
    refine ⟨p, sv h1, h2, h3, ?_⟩
    subst e
    show (match as[i]?, vs[i]? with
      | some (.own _ _), some (.ref p) => some p
      | _, _ => none) = some p
    rw [h', h1]
  · obtain ⟨_, p1, z1, _⟩ := A.own i n d (lv (by simp) h1)
    obtain ⟨_, p2, z2, _⟩ := A.own j m e (lv (by simp) h2)
    have e1 := sv z1
    have e2 := sv z2
    rw [h3] at e1
    rw [h4] at e2
    cases e1
    cases e2
    exact A.sep i j n m d e p (lv (by simp) h1) (lv (by simp) h2) z1 z2
  · have hj' : (match as[j]?, vs[j]? with
      | some (.own _ _), some (.ref p) => some p
      | _, _ => none) = some a := hj
    split at hj'
    · rename_i n d p q1 q2
      cases hj'
      obtain ⟨_, p', z1, z2, _⟩ := A.own j n d q1
      rw [q2] at z1
      cases z1
      obtain ⟨o, ho⟩ := z2.live
      show H a ≠ none
      rw [ho]; simp
    · cases hj'
theorem bw_bx {vs : List V} {as : List Sl} {H S : Hp} {a : Addr} (h : (infOf vs as H S).bw a) : Bx vs as a := by
  obtain ⟨j, hj⟩ := h
  have hj' : (match as[j]?, vs[j]? with
      | some (.own _ _), some (.ref p) => some p
      | _, _ => none) = some a := hj
  split at hj'
  · rename_i n d p q1 q2
    cases hj'
    exact ⟨j, n, d, q1, q2⟩
  · cases hj'
/-- THE RULE: a def that may raise own errors, by its body -/
theorem fn_mk {x qual : Str} {st : Stmt} {f : Addr} {fd : FuncData} {N ps : List Str} {k : Nat} {g : SM} (F : Fun K x qual st f fd) (Sc : FnScope N ps (defScope st))
    (hb : ∀ (cdv : Value) (A : Around) (outer : List Env) (s : Shared) (H : Hp) (E : XK) (J : Inf), Room k (A.deeper (envOfC qual (defScope st) s.heap.objs.size f cdv)) →
      FSs (cxOf (L2.CX P w) P w K mg base N qual (defScope st) f cdv A outer s H E) J (fun cls d _ H' => E cls d H') (defBody st) g) :
    FnS P w K mg base (k + 1) f fd ps (mkFn ps.length N.length g) := by
  have hpl : ps.length ≤ N.length := by have := congrArg List.length Sc.pre; rw [List.length_take] at this; omega
  have arg : ∀ {vs : List V} {as : List Sl} {S H : Hp} {r}, ArgR K S H vs as → mkFn ps.length N.length g as = some r → vs.length = ps.length := fun {vs as S H r} A e => by
    unfold mkFn at e
    split at e
    · rename_i hl; rw [A.len]; exact hl
    · cases e
  refine F.okX Sc (fun vs H Q E h => ?_) (fun cdv A outer s H vs Q E hr h => ?_)
  · obtain ⟨S, as, res, os, sub, AR, e, _⟩ := h
    exact arg AR e
  · obtain ⟨S, as, res, os, sub, AR, e, post⟩ := h
    have hl := arg AR e
    obtain ⟨t, pt, sim⟩ := hb cdv A outer s H E (infOf vs as H S) hr
    refine ⟨t, pt, ?_⟩
    have R := rel_start (N := N) sub AR (by rw [hl]; exact hpl)
    rw [hl] at R
    unfold mkFn at e
    rw [if_pos (by rw [← AR.len]; exact hl)] at e
    have fin : ∀ {σ' : St} {H' S' : Hp} {fs' : Fs}, Rel K (infOf vs as H S) σ' H' S' fs' → Same S' H' ∧ Stp (Bx vs as) (fun _ => False) H S H' S' ∧ OutR K S' H' vs as (outs ps.length 0 fs') := fun {σ' H' S' fs'} R' => by
      refine ⟨R'.sub, ⟨fun a o q nb => R'.keep0 a o q fun z => nb (bw_bx z), R'.grow0, fun a q => (R'.new0 a q).imp id .inl, R'.live0⟩, fun i n d q => ?_⟩
      obtain ⟨q1, q2⟩ := outs_get q
      obtain ⟨p, z1, z2, z3, z4⟩ := R'.own i n d q1
      have en : n = i + 1 := by omega
      subst en
      have z4' : (match as[i]?, vs[i]? with
        | some (.own _ _), some (.ref p) => some p
        | _, _ => none) = some p := z4
      split at z4'
      · rename_i m e0 p' w1 w2
        cases z4'
        exact ⟨⟨m, e0, w1⟩, p, w2, z2, z3⟩
      · cases z4'
    split at e
    · rename_i fs' q
      cases e
      refine sim _ H S _ _ .nx fs' R q fun σ' H' S' R' _ => ?_
      obtain ⟨f1, f2, f3⟩ := fin R'
      exact post H' S' f1 f2 f3 .non Rp.non
    · rename_i fr d fs' q
      cases e
      refine sim _ H S _ _ (.ret fr d) fs' R q fun σ' H' S' R' _ v r => ?_
      obtain ⟨f1, f2, f3⟩ := fin R'
      refine post H' S' f1 f2 f3 v ?_
      cases fr with
      | false => exact r
      | true => exact r
    · rename_i c fs' q
      cases e
      refine sim _ H S _ _ (.ex c) fs' R q fun σ' H' S' R' _ C hC => ?_
      obtain ⟨f1, f2, f3⟩ := fin R'
      exact post H' S' f1 f2 f3 C hC
    · cases e
end

/-! ### comprehensions -/
def wipeF : Fs → List Nat → Fs
  | fs, [] => fs
  | fs, v :: vs => (wipeF fs vs).set v .no
def lcL (vs : List Nat) (g : D → Fs → Option Fs) (tt : M Bool) (fe : M Rv) : List D → List D → Fs → Option (List D × Fs)
  | [], acc, fs => some (acc, fs)
  | d :: ds, acc, fs => match g d fs with
    | none => none
    | some fs1 => match tt fs1 with
      | some (.inr true, fs2) => match fD fe fs2 with
        | some (.inr x, fs3) => if acc.length < sizeLine then lcL vs g tt fe ds (acc ++ [x]) (wipeF fs3 vs) else none
        | _ => none
      | some (.inr false, fs2) => lcL vs g tt fe ds acc (wipeF fs2 vs)
      | _ => none
def fLc (vs : List Nat) (f : M (List D)) (g : D → Fs → Option Fs) (tt : M Bool) (fe : M Rv) : M Rv := bnd f fun ds fs => match lcL vs g tt fe ds [] (wipeF fs vs) with
  | some (out, fs1) => some (.inr (.fresh (.list out)), fs1)
  | none => none
def tYesF : M Bool := rt true
theorem wipe_len (σ : St) : ∀ vs : List Nat, (wipe σ vs).length = σ.length := wipe_length σ
theorem wipeF_len (fs : Fs) : ∀ vs : List Nat, (wipeF fs vs).length = fs.length
  | [] => rfl
  | v :: vs => by unfold wipeF; rw [List.length_set, wipeF_len fs vs]
theorem wipe_in {σ : St} : ∀ {vs : List Nat} {i : Nat}, i ∈ vs → i < σ.length → (wipe σ vs)[i]? = some none
  | v :: vs, i, h, hl => by
    unfold wipe
    by_cases hv : v = i
    · subst hv
      rw [List.getElem?_set_self (by rw [wipe_length]; exact hl)]
    · rw [List.getElem?_set_ne hv]
      rcases List.mem_cons.mp h with e | h
      · exact absurd e.symm hv
      · exact wipe_in h hl
theorem wipeF_in {fs : Fs} : ∀ {vs : List Nat} {i : Nat} {s : Sl}, i ∈ vs → (wipeF fs vs)[i]? = some s → s = .no
  | v :: vs, i, s, h, e => by
    unfold wipeF at e
    by_cases hv : v = i
    · subst hv
      by_cases hl : v < (wipeF fs vs).length
      · rw [List.getElem?_set_self hl] at e; cases e; rfl
      · rw [List.getElem?_eq_none (by simpa using hl)] at e; cases e
    · rw [List.getElem?_set_ne hv] at e
      rcases List.mem_cons.mp h with e' | h
      · exact absurd e'.symm hv
      · exact wipeF_in h e
theorem wipeF_out {fs : Fs} : ∀ {vs : List Nat} {i : Nat}, i ∉ vs → (wipeF fs vs)[i]? = fs[i]?
  | [], _, _ => rfl
  | v :: vs, i, h => by
    unfold wipeF
    rw [List.mem_cons, not_or] at h
    rw [List.getElem?_set_ne (Ne.symm h.1), wipeF_out h.2]
theorem wipe_off {σ σ' : St} {is vs : List Nat} (h : Off is (wipe σ vs) σ') (hs : ∀ i ∈ is, i ∈ vs) : wipe σ' vs = wipe σ vs := by
  apply List.ext_getElem?
  intro i
  by_cases hi : i ∈ vs
  · by_cases hl : i < σ.length
    · rw [wipe_in hi (by rw [h.1, wipe_length]; exact hl), wipe_in hi hl]
    · rw [List.getElem?_eq_none (by rw [wipe_length, h.1, wipe_length]; omega), List.getElem?_eq_none (by rw [wipe_length]; omega)]
  · rw [wipe_out hi, h.2 i (fun z => hi (hs i z))]
section
variable {K : PySem.W.Frag} {J : Inf} {σ : St} {H S : Hp} {fs : Fs} {vs : List Nat}
/-- an object of nobody's is changed -/
theorem Rel.chg {p : Addr} {o : HO} (R : Rel K J σ H S fs) (hs : S p = none) (hw : ¬ Wn σ fs p) (hn : J.H0 p = none) : Rel K J σ (upd H p o) S fs where
  sub := fun a u e => by rw [upd_ne (ne_of_none e hs)]; exact R.sub _ _ e
  len := R.len
  dat := R.dat
  own := fun i n d e => by
    obtain ⟨q, h1, h2, h3, h4⟩ := R.own i n d e
    have ne : q ≠ p := fun z => hw ⟨i, n, d, e, by rw [← z]; exact h1⟩
    exact ⟨q, h1, h2.mono (Same.refl _) fun u z => by rw [upd_ne ne]; exact z, h3, h4⟩
  sep := R.sep
  keep0 := fun a u e nb => by
    have ne : a ≠ p := ne_of_none e hn
    rw [upd_ne ne]
    exact R.keep0 a u e nb
  grow0 := R.grow0
  new0 := R.new0
  live0 := fun a h => by
    by_cases e : a = p
    · subst e; rw [upd_same]; simp
    · rw [upd_ne e]; exact R.live0 a h
  bwl := R.bwl
/-- slots seen through two frames that agree where something is told -/
theorem Rel.through {σ' : St} {fs' : Fs} (R : Rel K J σ H S fs) (hl : σ'.length = fs'.length) (h : ∀ (i : Nat) (s : Sl), s ≠ .no → fs'[i]? = some s → fs[i]? = some s ∧ σ'[i]? = σ[i]?) : Rel K J σ' H S fs' where
  sub := R.sub
  len := hl
  dat := fun i d e => by
    obtain ⟨h1, h2⟩ := h i _ (by simp) e
    obtain ⟨v, q1, q2⟩ := R.dat i d h1
    exact ⟨v, by rw [h2]; exact q1, q2⟩
  own := fun i n d e => by
    obtain ⟨h1, h2⟩ := h i _ (by simp) e
    obtain ⟨p, q1, q2⟩ := R.own i n d h1
    exact ⟨p, by rw [h2]; exact q1, q2⟩
  sep := fun i j n m d e p q1 q2 q3 q4 => by
    obtain ⟨h1, h2⟩ := h i _ (by simp) q1
    obtain ⟨h3, h4⟩ := h j _ (by simp) q2
    rw [h2] at q3
    rw [h4] at q4
    exact R.sep i j n m d e p h1 h3 q3 q4
  keep0 := R.keep0
  grow0 := R.grow0
  new0 := R.new0
  live0 := R.live0
  bwl := R.bwl
theorem Rel.wiped (R : Rel K J σ H S fs) (vs : List Nat) : Rel K J (wipe σ vs) H S (wipeF fs vs) :=
  R.through (by rw [wipe_length, wipeF_len]; exact R.len) fun i s hs e => by
    by_cases hi : i ∈ vs
    · exact absurd (wipeF_in hi e) hs
    · rw [wipeF_out hi] at e
      exact ⟨e, wipe_out hi⟩
theorem Rel.unwiped (R : Rel K J (wipe σ vs) H S fs) (hw : ∀ i ∈ vs, ∀ s, fs[i]? = some s → s = .no) : Rel K J σ H S fs :=
  R.through (by rw [← wipe_length σ vs]; exact R.len) fun i s hs e => by
    by_cases hi : i ∈ vs
    · exact absurd (hw i hi s e) hs
    · exact ⟨e, (wipe_out hi).symm⟩
theorem shr_wipeF : Shr fs (wipeF fs vs) := fun i n d e => by
  by_cases hi : i ∈ vs
  · have := wipeF_in hi e
    cases this
  · rw [wipeF_out hi] at e
    exact ⟨d, e⟩
theorem wn_wipe {fs' : Fs} {a : Addr} (sh : Shr fs fs') (hw : ∀ i ∈ vs, ∀ s, fs'[i]? = some s → s = .no) (h : Wn (wipe σ vs) fs' a) : Wn σ fs a := by
  obtain ⟨i, n, d, h1, h2⟩ := h
  have hi : i ∉ vs := fun z => by
    have := hw i z _ h1
    cases this
  rw [wipe_out hi] at h2
  obtain ⟨d', h3⟩ := sh i n d h1
  exact ⟨i, n, d', h3, h2⟩
theorem wz_wipe {fs' : Fs} {a : Addr} (sh : Shr fs fs') (hw : ∀ i ∈ vs, ∀ s, fs'[i]? = some s → s = .no) (h : Wz (wipe σ vs) fs' a) : Wz σ fs a := by
  obtain ⟨i, d, h1, h2⟩ := h
  have hi : i ∉ vs := fun z => by
    have := hw i z _ h1
    cases this
  rw [wipe_out hi] at h2
  obtain ⟨d', h3⟩ := sh i 0 d h1
  exact ⟨i, d', h3, h2⟩
end
/-- own slots behind a target that only touches vs -/
theorem off_wn {σ0 σ' : St} {fs0 fs' : Fs} {vs is : List Nat} {a : Addr} (o : Off is σ0 σ') (sh : Shr fs0 fs') (hs : ∀ i ∈ is, i ∈ vs) (hw : ∀ i ∈ vs, ∀ s, fs0[i]? = some s → s = .no) : (Wn σ' fs' a → Wn σ0 fs0 a) ∧ (Wz σ' fs' a → Wz σ0 fs0 a) := by
  constructor
  · rintro ⟨i, n, d, h1, h2⟩
    obtain ⟨d', h3⟩ := sh i n d h1
    have hi : i ∉ is := fun z => by
      have := hw i (hs i z) _ h3
      cases this
    rw [o.2 i hi] at h2
    exact ⟨i, n, d', h3, h2⟩
  · rintro ⟨i, d, h1, h2⟩
    obtain ⟨d', h3⟩ := sh i 0 d h1
    have hi : i ∉ is := fun z => by
      have := hw i (hs i z) _ h3
      cases this
    rw [o.2 i hi] at h2
    exact ⟨i, d', h3, h2⟩
section
variable {K : PySem.W.Frag} {J : Inf} {mg : Str → Option Value} {st : Bool} {vs is : List Nat} {g : D → Fs → Option Fs} {tt : M Bool} {fe : M Rv} {tG : TG} {tT : TT} {tE : TE}
abbrev W0 : WX := fun _ _ _ _ => False
/-- the state between two turns: acc is told at D -/
structure LcI (K : PySem.W.Frag) (J : Inf) (vs : List Nat) (σ : St) (fs0 : Fs) (H1 S1 : Hp) (Dl : Addr) (accD : List D) (H S : Hp) (fs : Fs) : Prop where
  rel : Rel K J (wipe σ vs) H S fs
  acc : ∃ acc, H Dl = some (.lst acc) ∧ Rps K S acc accD
  outS : S Dl = none
  outW : ¬ Wn (wipe σ vs) fs Dl
  fresh : J.H0 Dl = none
  stp : Stp (Wn σ fs0) (Wz σ fs0) H1 S1 H S
  shr : Shr fs0 fs
  wip : ∀ i ∈ vs, ∀ s, fs[i]? = some s → s = .no
theorem lc_turn {σ : St} {fs0 fs : Fs} {H1 S1 H S S' H' : Hp} {Dl : Addr} {accD : List D} {x : V} {d : D} (I : LcI K J vs σ fs0 H1 S1 Dl accD H S fs) (hD : H1 Dl = none) (hs : ∀ i ∈ is, i ∈ vs)
    (sg : SimG K J st tG is g) (sT : Sim K J mg W0 tT rB tt) (sE : Sim K J mg W0 tE (rV K) fe) (st2 : Stp (fun _ => False) (fun _ => False) H S H' S') (sub2 : Same S' H') (rp : RpK st K S' x d) {ds : List D} {res : List D × Fs} (Nx : Hp → Prop)
    (e : lcL vs g tt fe (d :: ds) accD fs = some res)
    (k : ∀ accD' H2 S2 fs2, LcI K J vs σ fs0 H1 S1 Dl accD' H2 S2 fs2 → lcL vs g tt fe ds accD' fs2 = some res → Nx H2) :
    tG x (wipe σ vs) H' fun σ2 H2 => wipe σ2 vs = wipe σ vs ∧ tT σ2 H2 fun b H3 =>
      if b = true then tE σ2 H3 fun y H4 => ∃ acc, H4 Dl = some (.lst acc) ∧ acc.length < sizeLine ∧ Nx (upd H4 Dl (.lst (acc ++ [y]))) else Nx H3 := by
  have R2 := I.rel.grown st2 sub2
  obtain ⟨acc0, a1, a2⟩ := I.acc
  have liveD : ∀ {W Z : Addr → Prop} {Ha Sa Hb Sb : Hp}, Stp W Z Ha Sa Hb Sb → Ha Dl = some (.lst acc0) → ¬ W Dl → Hb Dl = some (.lst acc0) := fun st h n => st.keep Dl _ h n
  simp only [lcL] at e
  split at e
  · cases e
  · rename_i fs3 q3
    refine sg (wipe σ vs) H' S' fs x d fs3 _ R2 rp q3 fun σ3 R3 off sh3 => ⟨wipe_off off hs, ?_⟩
    have own3 := fun a => off_wn (a := a) off sh3 hs I.wip
    have a1' : H' Dl = some (.lst acc0) := liveD st2 a1 (fun z => z)
    have outS' : S' Dl = none := by
      cases z : S' Dl with
      | none => rfl
      | some o =>
        rcases st2.new Dl (by rw [z]; simp) with w | w | w
        · exact absurd I.outS w
        · rw [a1] at w; cases w
        · exact w.elim
    -- behind the test
    have go : ∀ {fs4 : Fs} {H4 S4 : Hp}, Rel K J σ3 H4 S4 fs4 → Stp (Wn σ3 fs3) (Wz σ3 fs3) H' S' H4 S4 → Shr fs3 fs4 →
        LcI K J vs σ fs0 H1 S1 Dl accD H4 S4 (wipeF fs4 vs) ∧ H4 Dl = some (.lst acc0) ∧ S4 Dl = none ∧ ¬ Wn σ3 fs4 Dl ∧ Rps K S4 acc0 accD := fun {fs4 H4 S4} R4 st4 sh4 => by
      have nw3 : ¬ Wn σ3 fs3 Dl := fun z => I.outW ((own3 Dl).1 z)
      have nw4 : ¬ Wn σ3 fs4 Dl := fun z => nw3 (sh4.wn z)
      have b1 : H4 Dl = some (.lst acc0) := liveD st4 a1' nw3
      have b2 : S4 Dl = none := by
        cases z : S4 Dl with
        | none => rfl
        | some o =>
          rcases st4.new Dl (by rw [z]; simp) with w | w | ⟨i, d', w1, w2⟩
          · exact absurd outS' w
          · rw [a1'] at w; cases w
          · exact absurd ⟨i, 0, d', w1, w2⟩ nw3
      have b3 : Rps K S4 acc0 accD := (a2.mono st2.grow).mono st4.grow
      have sh : Shr fs0 fs4 := I.shr.trans (sh3.trans sh4)
      have stA : Stp (Wn σ fs0) (Wz σ fs0) H1 S1 H' S' := I.stp.trans st2 (fun _ z => z.elim) fun _ z => z.elim
      have stB : Stp (Wn σ fs0) (Wz σ fs0) H1 S1 H4 S4 := stA.trans st4 (fun a z => .inl (wn_wipe I.shr I.wip ((own3 a).1 z))) fun a z => .inl (wz_wipe I.shr I.wip ((own3 a).2 z))
      have Rw := R4.wiped vs
      rw [wipe_off off hs] at Rw
      refine ⟨⟨Rw, ⟨acc0, b1, b3⟩, b2, fun z => ?_, I.fresh, stB, sh.trans shr_wipeF, fun i hi s => wipeF_in hi⟩, b1, b2, nw4, b3⟩
      rw [← wipe_off off hs] at z
      exact nw4 (wn_wipe shr_wipeF (fun i hi s => wipeF_in hi) z)
    split at e
    · rename_i fs4 q4
      refine sT σ3 H' S' fs3 _ _ fs4 R3 q4 fun H4 S4 R4 st4 sh4 b rb => ?_
      cases rb
      rw [if_pos rfl]
      split at e
      · rename_i x5 fs5 q5
        split at e
        · rename_i hz
          refine sE.fz σ3 H4 S4 fs4 _ _ fs5 R4 q5 fun H5 S5 R5 st5 sh5 y ry => ?_
          obtain ⟨L5, b1, b2, b3, b4⟩ := go R5 (st4.seq sh4 st5) (sh4.trans sh5)
          refine ⟨acc0, b1, by rw [b4.length]; exact hz, ?_⟩
          have Rn := L5.rel.chg (o := .lst (acc0 ++ [y])) b2 L5.outW I.fresh
          refine k (accD ++ [x5]) _ S5 _ ⟨Rn, ⟨acc0 ++ [y], upd_same, b4.append (.cons ry .nil)⟩, b2, L5.outW, I.fresh, ⟨fun a o z nw => ?_, L5.stp.grow, L5.stp.new, fun a z => ?_⟩, L5.shr, L5.wip⟩ e
          · rw [upd_ne (ne_of_none z hD)]
            exact L5.stp.keep a o z nw
          · by_cases ea : a = Dl
            · subst ea; rw [upd_same]; simp
            · rw [upd_ne ea]; exact L5.stp.live a z
        · cases e
      · cases e
    · rename_i fs4 q4
      refine sT σ3 H' S' fs3 _ _ fs4 R3 q4 fun H4 S4 R4 st4 sh4 b rb => ?_
      cases rb
      rw [if_neg Bool.false_ne_true]
      obtain ⟨L4, _⟩ := go R4 st4 sh4
      exact k accD H4 S4 _ L4 e
    · cases e
end
section
variable {X : Cx} {J : Inf} {W : WX} {st : Bool} {elt tg iter : Expr} {ifs : List Expr} {scope : Scope} {own : List (Str × Nat)} {pos : Pos} {f : M (List D)} {g : D → Fs → Option Fs} {tt : M Bool} {fe : M Rv} {is : List Nat}
def FTs (X : Cx) (J : Inf) (W : WX) (ifs : List Expr) (f : M Bool) : Prop := ∃ t, PTs X ifs t ∧ Sim X.K J X.mg W t rB f
theorem fts_nil : FTs X J W [] tYesF := ⟨_, pts_nil, fun σ H S fs Q res fs' R e p => by cases e; exact p.here R rfl⟩
theorem fts_one {c : Expr} {u : M Bool} (h : FT X J W c u) : FTs X J W [c] u := let ⟨t, p, s⟩ := h; ⟨t, pts_one p, s⟩
/-- in every block of the comprehension -/
abbrev Blk (X : Cx) (scope : Scope) (s : Shared) (H : Hp) (C : Addr) (cl : List (Str × Addr)) (fp : List Addr) : Cx := X.blk s H scope (compEnvC scope cl C X.env) fp
theorem lc_parts (hg : ∀ s H C cl fp, FG (Blk X scope s H C cl fp) J st tg is g) (ht : ∀ s H C cl fp, FTs (Blk X scope s H C cl fp) J W0 ifs tt) (he : ∀ s H C cl fp, FE (Blk X scope s H C cl fp) J W0 elt fe) :
    ∃ tG tT tE, (∀ s H C cl fp, PG (Blk X scope s H C cl fp) tg tG) ∧ (∀ s H C cl fp, PTs (Blk X scope s H C cl fp) ifs tT) ∧ (∀ s H C cl fp, PE (Blk X scope s H C cl fp) elt tE) ∧
      SimG X.K J st tG is g ∧ Sim X.K J X.mg W0 tT rB tt ∧ Sim X.K J X.mg W0 tE (rV X.K) fe := by
  refine ⟨fun v σ H Q => ∀ s H' C cl fp, (Classical.choose (hg s H' C cl fp)) v σ H Q, fun σ H Q => ∀ s H' C cl fp, (Classical.choose (ht s H' C cl fp)) σ H Q, fun σ H Q => ∀ s H' C cl fp, (Classical.choose (he s H' C cl fp)) σ H Q, ?_, ?_, ?_, ?_, ?_, ?_⟩
  · exact fun s H C cl fp => ⟨fun pins s' σ H' v u Q I r h => (Classical.choose_spec (hg s H C cl fp)).1.run pins s' σ H' v u Q I r (h s H C cl fp)⟩
  · exact fun s H C cl fp => ⟨fun pins s' σ H' Q I h => (Classical.choose_spec (ht s H C cl fp)).1.run pins s' σ H' Q I (h s H C cl fp)⟩
  · exact fun s H C cl fp => ⟨fun pins s' σ H' Q I h => (Classical.choose_spec (he s H C cl fp)).1.run pins s' σ H' Q I (h s H C cl fp)⟩
  · exact fun σ H S fs v d fs' Q R r e q s H' C cl fp => (Classical.choose_spec (hg s H' C cl fp)).2 σ H S fs v d fs' Q R r e q
  · exact fun σ H S fs Q res fs' R e p s H' C cl fp => (Classical.choose_spec (ht s H' C cl fp)).2 σ H S fs Q res fs' R e p
  · exact fun σ H S fs Q res fs' R e p s H' C cl fp => (Classical.choose_spec (he s H' C cl fp)).2 σ H S fs Q res fs' R e p
theorem sim_lc {wi : TI} {vs : List Nat} {tG : TG} {tT : TT} {tE : TE} (hs : ∀ i ∈ is, i ∈ vs) (si : Sim X.K J X.mg W wi (rI st X.K) f) (sg : SimG X.K J st tG is g) (sT : Sim X.K J X.mg W0 tT rB tt) (sE : Sim X.K J X.mg W0 tE (rV X.K) fe) :
    Sim X.K J X.mg W (tLc wi tG tT tE vs) (rV X.K) (fLc vs f g tt fe) := by
  intro σ H S fs Q res fs' R e p
  refine si.bind R e p fun ds fs1 it H1 S1 R1 r1 e1 p1 st1 sh1 => ?_
  try dsimp only at e1
  split at e1
  · rename_i out fsE q
    cases e1
    intro Dl hD
    have hn : J.H0 Dl = none := by
      cases z : J.H0 Dl with
      | none => rfl
      | some o => exact absurd hD (R1.live0 Dl (by rw [z]; simp))
    have hS : S1 Dl = none := by
      cases z : S1 Dl with
      | none => rfl
      | some o => rw [R1.sub _ _ z] at hD; cases hD
    have hW : ¬ Wn σ fs1 Dl := fun z => by
      obtain ⟨o, w⟩ := R1.wn_live z
      rw [hD] at w; cases w
    have I0 : LcI X.K J vs σ fs1 H1 S1 Dl [] (upd H1 Dl (.lst [])) S1 (wipeF fs1 vs) := by
      have st0 := stp_newH (S := S1) (o := .lst []) hD
      refine ⟨(R1.grown st0 (same_newH hD R1.sub)).wiped vs, ⟨[], upd_same, .nil⟩, hS, fun z => hW (wn_wipe shr_wipeF (fun i hi s => wipeF_in hi) z), hn, st0.weak (fun _ z => z.elim) fun _ z => z.elim, shr_wipeF, fun i hi s => wipeF_in hi⟩
    refine ⟨fun i m H => m = ds.length - i ∧ i ≤ ds.length ∧ ∃ accD S2 fs2, LcI X.K J vs σ fs1 H1 S1 Dl accD H S2 fs2 ∧ lcL vs g tt fe (ds.drop i) accD fs2 = some (out, fs'), ⟨ds.length, by simp, Nat.zero_le _, [], S1, _, I0, by simpa using q⟩, ?_⟩
    rintro i m H2 ⟨rfl, hi, accD, S2, fs2, I2, e2⟩
    by_cases hlt : i < ds.length
    · refine .inr ⟨r1.go i H2 S2 hlt I2.stp.grow I2.rel.sub, fun H' => ∃ accD S2 fs2, LcI X.K J vs σ fs1 H1 S1 Dl accD H' S2 fs2 ∧ lcL vs g tt fe (ds.drop (i + 1)) accD fs2 = some (out, fs'), fun H' hN => ⟨ds.length - (i + 1), by omega, rfl, hlt, hN⟩, fun x H' y => ?_⟩
      obtain ⟨S3, d, hd, st3, sub3, rp⟩ := r1.yld i H2 S2 x H' hlt I2.stp.grow I2.rel.sub y
      have ed : ds.drop i = d :: ds.drop (i + 1) := by
        rw [← List.getElem_cons_drop hlt]
        congr 1
        rw [List.getElem?_eq_getElem hlt] at hd
        exact Option.some.inj hd
      rw [ed] at e2
      exact lc_turn I2 hD hs sg sT sE st3 sub3 rp _ e2 fun accD' H4 S4 fs4 I4 e4 => ⟨accD', S4, fs4, I4, e4⟩
    · have ei : i = ds.length := by omega
      subst ei
      rw [List.drop_length] at e2
      cases e2
      refine .inl ⟨r1.stop H2 S2 I2.stp.grow I2.rel.sub, ?_⟩
      have Rf := I2.rel.unwiped I2.wip
      obtain ⟨acc, a1, a2⟩ := I2.acc
      refine p H2 S2 Rf (st1.seq sh1 I2.stp) (sh1.trans I2.shr) (.ref Dl) ⟨Dl, rfl, ⟨acc, a1, a2⟩, I2.outS, st1.none hD, fun z => hW (I2.shr.wn z)⟩
  · cases e1
/-- [elt for tg in iter if ..] -/
theorem fe_lc (hc : X.calm = true) (hN : X.N.Nodup) (hi : FI X J W st tg iter f) (ok : BlkOk X.N X.env.scope scope own) (hg : ∀ s H C cl fp, FG (Blk X scope s H C cl fp) J st tg is g) (ht : ∀ s H C cl fp, FTs (Blk X scope s H C cl fp) J W0 ifs tt)
    (he : ∀ s H C cl fp, FE (Blk X scope s H C cl fp) J W0 elt fe) (hsub : ∀ i ∈ is, i ∈ own.map (·.2) := by decide) (hs : ∀ x, foldedSetIterable iter X.env x = pure x := by intro _; rfl) :
    FE X J W (.ListComp elt [⟨tg, iter, ifs, 0⟩] scope pos) (fLc (own.map (·.2)) f g tt fe) := by
  obtain ⟨wi, pi, si⟩ := hi
  obtain ⟨tG, tT, tE, pg, pt, pe, sg, sT, sE⟩ := lc_parts hg ht he
  exact ⟨_, pe_lc hc hN pi ok pg pt pe hs, sim_lc hsub si sg sT sE⟩
/-- name = [..] -/
theorem fs_setLc {i : Nat} {y : Str} {py spos : Pos} (hc : X.calm = true) (hN : X.N.Nodup) (hi : FI X J W st tg iter f) (ok : BlkOk X.N X.env.scope scope own) (hg : ∀ s H C cl fp, FG (Blk X scope s H C cl fp) J st tg is g) (ht : ∀ s H C cl fp, FTs (Blk X scope s H C cl fp) J W0 ifs tt)
    (he : ∀ s H C cl fp, FE (Blk X scope s H C cl fp) J W0 elt fe) (hsw : swapsWith (.ListComp elt [⟨tg, iter, ifs, 0⟩] scope pos) (some (.Name y py)) spos.line X.env = pure true) (hy : X.N[i]? = some y := by rfl) (hyl : X.env.scope.names.lookup y = some .local := by rfl)
    (hsub : ∀ i ∈ is, i ∈ own.map (·.2) := by decide) (hs : ∀ x, foldedSetIterable iter X.env x = pure x := by intro _; rfl) :
    FS X J W (.Assign [.Name y py] (.ListComp elt [⟨tg, iter, ifs, 0⟩] scope pos) spos) (sSet i (fLc (own.map (·.2)) f g tt fe)) := by
  obtain ⟨wi, pi, si⟩ := hi
  obtain ⟨tG, tT, tE, pg, pt, pe, sg, sT, sE⟩ := lc_parts hg ht he
  exact ⟨_, ps_setLc hc hN hy hyl hsw pi ok pg pt pe hs, sim_set (sim_lc hsub si sg sT sE)⟩
end
end Fx

namespace Fx
open PySem PySem.Spec PyProof.Rows L2
/-! ### operations on data -/
section
variable {K : PySem.W.Frag} {S H : Hp} {v : V}
theorem RpB.int {i : Int} (h : RpB K S H v (.int i)) : v = .int i := by cases (show Rp K S v (.int i) from h); rfl
theorem RpB.bl {i : Bool} (h : RpB K S H v (.bool i)) : v = .bl i := by cases (show Rp K S v (.bool i) from h); rfl
theorem RpB.str {i : Str} (h : RpB K S H v (.str i)) : v = .str i := by cases (show Rp K S v (.str i) from h); rfl
theorem RpB.non (h : RpB K S H v .none) : v = .non := by cases (show Rp K S v .none from h); rfl
theorem RpB.tup {ds : List D} (h : RpB K S H v (.tuple ds)) : ∃ a xs, v = .ref a ∧ SqT K S a xs ∧ Plain K S a ∧ Rps K S xs ds := by
  cases (show Rp K S v (.tuple ds) from h) with
  | tup q p r => exact ⟨_, _, rfl, q, p, r⟩
theorem RpB.lst {ds : List D} (h : RpB K S H v (.list ds)) : ∃ a xs, v = .ref a ∧ H a = some (.lst xs) ∧ Rps K S xs ds := h
end
def hInt2 (C : Int → Int → Bool) (g : Int → Int → D) : D → D → Option Rv
  | .int i, .int j => bif C i j then some (.val (g i j)) else none
  | _, _ => none
section
variable {X : Cx}
theorem hInt2_inv {C : Int → Int → Bool} {g : Int → Int → D} {d e : D} {rv : Rv} (h : hInt2 C g d e = some rv) : ∃ i j, d = .int i ∧ e = .int j ∧ C i j = true ∧ rv = .val (g i j) := by
  unfold hInt2 at h
  split at h
  · rename_i i j
    cases hc : C i j with
    | true => rw [hc] at h; cases h; exact ⟨i, j, rfl, rfl, hc, rfl⟩
    | false => rw [hc] at h; cases h
  · cases h
theorem op2_int {C : Int → Int → Prop} {c : Int → Int → Bool} {g : Int → Int → Int} (hc : ∀ i j, c i j = true → C i j) : Op2 X (L2.rI C fun i j => V.int (g i j)) (hInt2 c fun i j => .int (g i j)) := by
  intro J σ fs H S x y d e rv Q R rx ry h p
  obtain ⟨i, j, rfl, rfl, q, rfl⟩ := hInt2_inv h
  exact ⟨i, j, rx.int, ry.int, hc i j q, p.here R (Rp.int _)⟩
theorem op2_int0 {g : Int → Int → Int} : Op2 X (rI0 fun i j => V.int (g i j)) (hInt2 (fun _ _ => true) fun i j => .int (g i j)) := by
  intro J σ fs H S x y d e rv Q R rx ry h p
  obtain ⟨i, j, rfl, rfl, q, rfl⟩ := hInt2_inv h
  exact ⟨i, j, rx.int, ry.int, p.here R (Rp.int _)⟩
theorem op2_intB {g : Int → Int → Bool} : Op2 X (rI0 fun i j => V.bl (g i j)) (hInt2 (fun _ _ => true) fun i j => .bool (g i j)) := by
  intro J σ fs H S x y d e rv Q R rx ry h p
  obtain ⟨i, j, rfl, rfl, q, rfl⟩ := hInt2_inv h
  exact ⟨i, j, rx.int, ry.int, p.here R (Rp.bl _)⟩

/-! a new tuple, its object known -/
theorem Inv.tnew {pins : List (Addr × Obj)} {s : Shared} {σ : St} {H : Hp} {xs : List V} {us : List Value} {t' : Nat} (I : Inv X pins σ H s) (r : Vals xs us) (hz : xs.length ≤ sizeLine) :
    Inv X pins σ (upd H s.heap.objs.size (.frz { cls := .type "tuple", data := .seq us.toArray } (.tup xs))) { s with heap := s.heap.push { cls := .type "tuple", data := .seq us.toArray }, toks := t' } := by
  have hg := Heap.get?_push_size s.heap (o := ({ cls := .type "tuple", data := .seq us.toArray } : Obj)) rfl
  exact I.laid (fun b u e => Heap.get?_push_of_some _ e) (Nat.le_refl _) ⟨hg, hz, us, r, ⟨_, hg, rfl, _, rfl⟩⟩
/-- the new tuple is handed on -/
abbrev NewT (xs : List V) (H : Hp) (Q : VK) : Prop := ∀ p o, H p = none → o.dict = none → Q (.ref p) (upd H p (.frz o (.tup xs)))
theorem NewT.ep {pins : List (Addr × Obj)} {s : Shared} {σ : St} {H : Hp} {xs : List V} {us : List Value} {t' : Nat} {Q : VK} (q : NewT xs H Q) (I : Inv X pins σ H s) (r : Vals xs us) (hz : xs.length ≤ sizeLine) :
    EP X pins σ Q (.ref s.heap.objs.size) { s with heap := s.heap.push { cls := .type "tuple", data := .seq us.toArray }, toks := t' } :=
  ⟨.ref s.heap.objs.size, _, Inv.tnew I r hz, rfl, q _ _ (I.hok.fresh (Nat.le_refl _)) rfl⟩

/-! `+` -/
def hAdd : D → D → Option Rv
  | .int i, .int j => some (.val (.int (i + j)))
  | .list a, .list b => if a.length + b.length ≤ sizeLine then some (.fresh (.list (a ++ b))) else none
  | .tuple a, .tuple b => if a.length + b.length ≤ sizeLine then some (.val (.tuple (a ++ b))) else none
  | .str a, .str b => if a.length + b.length ≤ sizeLine then some (.val (.str (a ++ b))) else none
  | _, _ => none
def rCatF (K : PySem.W.Frag) : R2 := fun x y H Q => ∃ a b xs ys, x = .ref a ∧ y = .ref b ∧ SqT K H a xs ∧ SqT K H b ys ∧ xs.length + ys.length ≤ sizeLine ∧
  (xs = [] → Q (.ref b) H) ∧ (ys = [] → Q (.ref a) H) ∧ NewT (xs ++ ys) H Q
theorem op_catF : OpR X (binaryOp .Add) (rCatF X.K) := by
  intro pins s σ H x y v u Q I rx ry h
  obtain ⟨a, b, xs, ys, rfl, rfl, ha, hb, hz, q0, q1, q2⟩ := h
  cases rx
  cases ry
  obtain ⟨its, r1, p1, _⟩ := I.tuple ha
  obtain ⟨its2, r2, p2, _⟩ := I.tuple hb
  by_cases hx : its = []
  · subst hx
    exact cat_tup0 p1 p2 ⟨.ref b, H, I, rfl, q0 (r1.nil_iff.mp rfl)⟩
  · refine HT.cat_tup p1 p2 hx (fun z => ⟨.ref a, H, I, rfl, q1 (r2.nil_iff.mp z)⟩) (fun z => ?_) (by rw [← r1.length, ← r2.length]; exact hz)
    exact NewT.ep q2 I (r1.append r2) (by rw [List.length_append]; exact hz)
abbrev rAddU (K : PySem.W.Frag) : R2 := fun x y H Q => rI0 (fun i j => .int (i + j)) x y H Q ∨ (rCat x y H Q ∨ (rCatF K x y H Q ∨ ∃ i j, x = .str i ∧ y = .str j ∧ i.length + j.length ≤ sizeLine ∧ Q (.str (i ++ j)) H))
theorem op_addU : OpR X (binaryOp .Add) (rAddU X.K) := op_add.or (op_cat.or (op_catF.or op_add_str))
theorem Rps.nil_iff {K : PySem.W.Frag} {S : Hp} {xs : List V} {ds : List D} (r : Rps K S xs ds) : xs = [] ↔ ds = [] := by cases r <;> simp
theorem op2_add : Op2 X (rAddU X.K) hAdd := by
  intro J σ fs H S x y d e rv Q R rx ry h p
  unfold hAdd at h
  split at h
  · cases h
    exact .inl ⟨_, _, rx.int, ry.int, p.here R (Rp.int _)⟩
  · split at h
    · rename_i hz
      cases h
      obtain ⟨a, xs, rfl, ha, ra⟩ := rx.lst
      obtain ⟨b, ys, rfl, hb, rb⟩ := ry.lst
      exact .inr (.inl ⟨a, b, xs, ys, rfl, rfl, ha, hb, by rw [ra.length, rb.length]; exact hz, fun l hl => p.newL R (ra.append rb) hl⟩)
    · cases h
  · split at h
    · rename_i hz
      cases h
      obtain ⟨a, xs, rfl, ha, pa, ra⟩ := rx.tup
      obtain ⟨b, ys, rfl, hb, pb, rb⟩ := ry.tup
      refine .inr (.inr (.inl ⟨a, b, xs, ys, rfl, rfl, Same.seqT R.sub ha, Same.seqT R.sub hb, by rw [ra.length, rb.length]; exact hz, fun e => ?_, fun e => ?_, fun l o hl hd => p.newT R (ra.append rb) hl hd⟩))
      · have := ra.nil_iff.mp e
        subst this
        exact p.here R (Rp.tup hb pb rb)
      · have := rb.nil_iff.mp e
        subst this
        rw [List.append_nil] at p
        exact p.here R (Rp.tup ha pa ra)
    · cases h
  · split at h
    · rename_i hz
      cases h
      exact .inr (.inr (.inr ⟨_, _, rx.str, ry.str, hz, p.here R (Rp.str _)⟩))
    · cases h
  · cases h

/-! `*` -/
def mulOk (a b : Int) : Bool := !(decide (Builtin.Int.intBits a > shortFactorBits) && decide (Builtin.Int.intBits b > shortFactorBits) && Builtin.Int.intTooBig (Builtin.Int.intBits a + Builtin.Int.intBits b))
theorem op_mulAll : OpR X (binaryOp .Mult) (L2.rI (fun i j => mulOk i j = true) fun i j => V.int (i * j)) := opI fun i j _ _ _ _ _ hc q => mul_int q (by
  unfold IntMulOk
  unfold mulOk at hc
  rw [Bool.not_eq_true'] at hc
  rw [hc]
  exact Bool.false_ne_true)
def hMul : D → D → Option Rv
  | .int i, .int j => bif mulOk i j then some (.val (.int (i * j))) else none
  | .list a, .int k => if 0 ≤ k ∧ k < 2 ^ 63 ∧ a.length * k.toNat ≤ sizeLine then some (.fresh (.list (List.replicate k.toNat a).flatten)) else none
  | .tuple a, .int k => if 2 ≤ k ∧ k ≤ 1000 ∧ a ≠ [] ∧ a.length ≤ 1000 then some (.val (.tuple (List.replicate k.toNat a).flatten)) else none
  | _, _ => none
end
end Fx

namespace Fx
open PySem PySem.Spec PyProof.Rows L2
section
variable {X : Cx}
/-! // % - -/
def hSub : D → D → Option Rv := hInt2 (fun _ _ => true) fun i j => .int (i - j)
theorem op2_sub : Op2 X (rI0 fun i j => V.int (i - j)) hSub := op2_int0
def divOk (i j : Int) : Bool := j != 0 && decide (j.natAbs.log2 < 9000)
theorem op_fdivAll : OpR X (binaryOp .FloorDiv) (L2.rI (fun i j => divOk i j = true) fun i j => V.int (i.fdiv j)) := opI fun i j _ _ _ _ _ hc q => by
  unfold divOk at hc
  rw [Bool.and_eq_true] at hc
  exact floordiv_int (by simpa using hc.1) q (.inl (PyProof.noPylong_of_log2 (of_decide_eq_true hc.2)))
def hFdiv : D → D → Option Rv := hInt2 divOk fun i j => .int (i.fdiv j)
theorem op2_fdiv : Op2 X (L2.rI (fun i j => divOk i j = true) fun i j => V.int (i.fdiv j)) hFdiv := op2_int fun _ _ h => h
def hMod : D → D → Option Rv := hInt2 (fun _ j => j != 0) fun i j => .int (i.fmod j)
theorem op2_mod : Op2 X (L2.rI (fun _ j => j ≠ 0) fun i j => V.int (i.fmod j)) hMod := op2_int fun _ j h => by simpa using h
def powOk (i j : Int) : Bool := decide (0 ≤ j) && decide (j ≤ 1000000) && decide (i.natAbs < 2 ^ 64)
def hPow : D → D → Option Rv := hInt2 powOk fun i j => .int (i ^ j.toNat)
theorem op2_pow : Op2 X (L2.rI CPow fun i j => V.int (i ^ j.toNat)) hPow := op2_int fun i j h => by
  unfold powOk at h
  rw [Bool.and_eq_true, Bool.and_eq_true] at h
  exact ⟨of_decide_eq_true h.1.1, of_decide_eq_true h.1.2, of_decide_eq_true h.2⟩
abbrev rMulU (K : PySem.W.Frag) : R2 := fun x y H Q => L2.rI (fun i j => mulOk i j = true) (fun i j => .int (i * j)) x y H Q ∨ rRep x y H Q
theorem op_mulU : OpR X (binaryOp .Mult) (rMulU X.K) := op_mulAll.or op_rep
theorem Rps.rep {K : PySem.W.Frag} {S : Hp} {xs : List V} {ds : List D} (h : Rps K S xs ds) : ∀ k : Nat, Rps K S (List.replicate k xs).flatten (List.replicate k ds).flatten
  | 0 => .nil
  | k + 1 => by
    rw [List.replicate_succ, List.replicate_succ, List.flatten_cons, List.flatten_cons]
    exact Rps.append h (Rps.rep h k)
def hMulL : D → D → Option Rv
  | .int i, .int j => bif mulOk i j then some (.val (.int (i * j))) else none
  | .list a, .int k => if 0 ≤ k ∧ k < 2 ^ 63 ∧ a.length * k.toNat ≤ sizeLine then some (.fresh (.list (List.replicate k.toNat a).flatten)) else none
  | _, _ => none
theorem op2_mul : Op2 X (rMulU X.K) hMulL := by
  intro J σ fs H S x y d e rv Q R rx ry h p
  unfold hMulL at h
  split at h
  · rename_i i j
    cases hc : mulOk i j with
    | true => rw [hc] at h; cases h; exact .inl ⟨_, _, rx.int, ry.int, hc, p.here R (Rp.int _)⟩
    | false => rw [hc] at h; cases h
  · rename_i a k
    split at h
    · rename_i hz
      cases h
      obtain ⟨l, xs, rfl, ha, ra⟩ := rx.lst
      exact .inr ⟨l, k, xs, rfl, ry.int, ha, by omega, hz.2.1, by rw [ra.length]; exact hz.2.2, fun l hl => p.newL R (ra.rep _) hl⟩
    · cases h
  · cases h
/-! < <= > >= of ints -/
def hLt : D → D → Option Rv := hInt2 (fun _ _ => true) fun i j => .bool (decide (i < j))
def hLe : D → D → Option Rv := hInt2 (fun _ _ => true) fun i j => .bool (decide (i ≤ j))
def hGt : D → D → Option Rv := hInt2 (fun _ _ => true) fun i j => .bool (decide (j < i))
def hGe : D → D → Option Rv := hInt2 (fun _ _ => true) fun i j => .bool (decide (j ≤ i))
theorem op2_lt : Op2 X (rI0 fun i j => V.bl (decide (i < j))) hLt := op2_intB
theorem op2_le : Op2 X (rI0 fun i j => V.bl (decide (i ≤ j))) hLe := op2_intB
theorem op2_gt : Op2 X (rI0 fun i j => V.bl (decide (j < i))) hGt := op2_intB
theorem op2_ge : Op2 X (rI0 fun i j => V.bl (decide (j ≤ i))) hGe := op2_intB
/-! - x -/
def hNeg : D → Option Rv
  | .int i => some (.val (.int (-i)))
  | _ => none
theorem op1_neg : Op1 X (rU fun i => V.int (-i)) hNeg := by
  intro J σ fs H S x d rv Q R rx h p
  unfold hNeg at h
  split at h
  · cases h; exact ⟨_, rx.int, p.here R (Rp.int _)⟩
  · cases h

/-! == at any depth -/
mutual
theorem Rp.dp {K : PySem.W.Frag} {S H : Hp} (sub : Same S H) : ∀ {v : V} {d : D}, Rp K S v d → d.canLay0 = true → Dp K H v d
  | _, _, .non, _ => .non
  | _, _, .bl b, _ => .bl b
  | _, _, .int i, _ => .int i
  | _, _, .str x, _ => .str x
  | _, _, .lst q r, h => .lst (SqL.of (sub _ _ q)) (Rps.dp sub r (by simpa [PyData.canLay0] using h))
  | _, _, .scr _ _, h => by simp [PyData.canLay0] at h
  | _, _, .tup q p r, h => .tup (Same.seqT sub q) (Rps.dp sub r (by simpa [PyData.canLay0] using h))
  | _, _, .dct _ _, h => by simp [PyData.canLay0] at h
theorem Rps.dp {K : PySem.W.Frag} {S H : Hp} (sub : Same S H) : ∀ {v : List V} {d : List D}, Rps K S v d → PyData.canLayAll0 d = true → DpAll K H v d
  | _, _, .nil, _ => .nil
  | _, _, .cons r t, h => by
    simp only [PyData.canLayAll0, Bool.and_eq_true] at h
    exact .cons (Rp.dp sub r h.1) (Rps.dp sub t h.2)
end
theorem RpB.dp {K : PySem.W.Frag} {S H : Hp} (sub : Same S H) {v : V} {d : D} (h : RpB K S H v d) (c : SeqAt.shaped d = true) : Dp K H v d := by
  have c0 := SeqAt.canLay_of_shaped c
  cases d with
  | list ds =>
    obtain ⟨a, xs, rfl, q, r⟩ := h
    exact .lst (SqL.of q) (r.dp sub (by simpa [PyData.canLay0] using c0))
  | dict ds => simp [PyData.canLay0] at c0
  | none => exact Rp.dp sub h c0
  | bool b => exact Rp.dp sub h c0
  | int i => exact Rp.dp sub h c0
  | str x => exact Rp.dp sub h c0
  | tuple ds => exact Rp.dp sub h c0
def hEq (d e : D) : Option Rv := bif SeqAt.shaped d && SeqAt.shaped e then some (.val (.bool (PyData.eqv d e))) else none
def hNe (d e : D) : Option Rv := bif SeqAt.shaped d && SeqAt.shaped e then some (.val (.bool (!PyData.eqv d e))) else none
theorem op2_eq : Op2 X (rEqD X.K) hEq := by
  intro J σ fs H S x y d e rv Q R rx ry h p
  unfold hEq at h
  cases c : SeqAt.shaped d && SeqAt.shaped e with
  | false => rw [c] at h; cases h
  | true =>
    rw [c] at h
    cases h
    rw [Bool.and_eq_true] at c
    exact ⟨d, e, rx.dp R.sub c.1, ry.dp R.sub c.2, c.1, c.2, p.here R (Rp.bl _)⟩
theorem op2_ne : Op2 X (rNeD X.K) hNe := by
  intro J σ fs H S x y d e rv Q R rx ry h p
  unfold hNe at h
  cases c : SeqAt.shaped d && SeqAt.shaped e with
  | false => rw [c] at h; cases h
  | true =>
    rw [c] at h
    cases h
    rw [Bool.and_eq_true] at c
    exact ⟨d, e, rx.dp R.sub c.1, ry.dp R.sub c.2, c.1, c.2, p.here R (Rp.bl _)⟩
/-! in -/
def flatD : D → Bool
  | .none => true
  | .bool _ => true
  | .int _ => true
  | .str _ => true
  | _ => false
theorem flatV_of {K : PySem.W.Frag} {S : Hp} {v : V} {d : D} (r : Rp K S v d) (h : flatD d = true) : flatV v = true := by
  cases r <;> first | rfl | (exact absurd h (by simp [flatD]))
theorem eqV_of {K : PySem.W.Frag} {S S' : Hp} {v u : V} {d e : D} (r : Rp K S v d) (q : Rp K S' u e) (h : flatD d = true) (h' : flatD e = true) : eqV v u = PyData.eqv d e := by
  cases r with
  | non => cases q <;> simp_all [eqV, PyData.eqv, flatD]
  | bl b => cases q <;> simp_all [eqV, PyData.eqv, flatD]
  | int i => cases q <;> simp_all [eqV, PyData.eqv, flatD]
  | str x => cases q <;> simp_all [eqV, PyData.eqv, flatD]
  | lst _ _ => cases h
  | scr _ _ => cases h
  | tup _ _ _ => cases h
  | dct _ _ => cases h
theorem inV_of {K : PySem.W.Frag} {S S' : Hp} {v : V} {d : D} (q : Rp K S' v d) (h' : flatD d = true) : ∀ {xs : List V} {ds : List D}, Rps K S xs ds → ds.all flatD = true → inV v xs = ds.any (fun z => PyData.eqv z d) ∧ xs.all flatV = true
  | _, _, .nil, _ => ⟨rfl, rfl⟩
  | _, _, .cons r t, h => by
    rw [List.all_cons, Bool.and_eq_true] at h
    obtain ⟨h1, h2⟩ := inV_of q h' t h.2
    refine ⟨?_, by rw [List.all_cons, flatV_of r h.1, h2]; rfl⟩
    show (_ :: _).any _ = _
    rw [List.any_cons, List.any_cons, eqV_of r q h.1 h']
    congr 1
theorem flat_rp {K : PySem.W.Frag} {S H : Hp} {v : V} {d : D} (h : RpB K S H v d) (f : flatD d = true) : Rp K S v d := by
  cases d <;> first | exact h | (exact absurd f (by simp [flatD]))
def hIn (neg : Bool) (d : D) : D → Option Rv
  | .list ds => bif SeqAt.shaped d && SeqAt.shaped (.list ds) then some (.val (.bool (neg != ds.any fun z => PyData.eqv z d))) else none
  | .tuple ds => bif flatD d && ds.all flatD then some (.val (.bool (neg != ds.any fun z => PyData.eqv z d))) else
      bif SeqAt.shaped d && SeqAt.shaped (.tuple ds) then some (.val (.bool (neg != ds.any fun z => PyData.eqv z d))) else none
  | .str s => match d with
    | .str t => some (.val (.bool (neg != !(Builtin.Str.occurrences s t 0 s.length 1).isEmpty)))
    | _ => none
  | _ => none
def rInT (K : PySem.W.Frag) (neg : Bool) : R2 := fun x y H Q => ∃ d ds, Dp K H x d ∧ Dp K H y (.tuple ds) ∧ SeqAt.shaped d = true ∧ SeqAt.shaped (.tuple ds) = true ∧ Q (.bl (neg != ds.any fun z => PyData.eqv z d)) H
theorem op_inT (hu : X.A.units + 65 < cLine) : OpR X (compareOp .In) (rInT X.K false) := by
  intro pins s σ H x y v u Q I rx ry h
  obtain ⟨d, ds, hd, he, sd, se, q⟩ := h
  obtain ⟨as, r1⟩ := Dp.reads I d x v hd rx
  obtain ⟨bs, r2⟩ := Dp.reads I (.tuple ds) y u he ry
  exact SeqAt.in_tuple_reads r2 r1 (SeqAt.canLay_of_shaped se) (SeqAt.canLay_of_shaped sd) (room_in_shaped sd hu) ⟨.bl _, H, I, rfl, by rw [Bool.false_bne] at q; exact q⟩
theorem op_notInT (hu : X.A.units + 65 < cLine) : OpR X (compareOp .NotIn) (rInT X.K true) := by
  intro pins s σ H x y v u Q I rx ry h
  obtain ⟨d, ds, hd, he, sd, se, q⟩ := h
  obtain ⟨as, r1⟩ := Dp.reads I d x v hd rx
  obtain ⟨bs, r2⟩ := Dp.reads I (.tuple ds) y u he ry
  exact SeqAt.notIn_tuple_reads r2 r1 (SeqAt.canLay_of_shaped se) (SeqAt.canLay_of_shaped sd) (room_in_shaped sd hu) ⟨.bl _, H, I, rfl, by rw [Bool.true_bne] at q; exact q⟩
abbrev rInU (K : PySem.W.Frag) : R2 := fun x y H Q => (rInD K x y H Q ∨ rInT K false x y H Q) ∨ (rIn K false x y H Q ∨ ∃ i j, x = .str i ∧ y = .str j ∧ Q (.bl (!(Builtin.Str.occurrences j i 0 j.length 1).isEmpty)) H)
abbrev rNotInU (K : PySem.W.Frag) : R2 := fun x y H Q => (rNotInD K x y H Q ∨ rInT K true x y H Q) ∨ (rIn K true x y H Q ∨ ∃ i j, x = .str i ∧ y = .str j ∧ Q (.bl (!(!(Builtin.Str.occurrences j i 0 j.length 1).isEmpty))) H)
theorem op_inU (hu : X.A.units + 65 < cLine) : OpR X (compareOp .In) (rInU X.K) := ((op_inD hu).or (op_inT hu)).or (op_in_seq.or op_in_str)
theorem op_notInU (hu : X.A.units + 65 < cLine) : OpR X (compareOp .NotIn) (rNotInU X.K) := ((op_notInD hu).or (op_notInT hu)).or (op_notIn_seq.or L2.op_notIn_str)
theorem op2_in : Op2 X (rInU X.K) (hIn false) := by
  intro J σ fs H S x y d e rv Q R rx ry h p
  unfold hIn at h
  split at h
  · rename_i ds
    cases c : SeqAt.shaped d && SeqAt.shaped (.list ds) with
    | false => rw [c] at h; cases h
    | true =>
      rw [c] at h
      cases h
      rw [Bool.and_eq_true] at c
      exact .inl (.inl ⟨d, ds, rx.dp R.sub c.1, ry.dp R.sub c.2, c.1, c.2, p.here R (by rw [Bool.false_bne]; exact Rp.bl _)⟩)
  · rename_i ds
    cases c : flatD d && ds.all flatD with
    | false =>
      rw [c] at h
      cases c2 : SeqAt.shaped d && SeqAt.shaped (.tuple ds) with
      | false => rw [c2] at h; cases h
      | true =>
        rw [c2] at h
        cases h
        rw [Bool.and_eq_true] at c2
        exact .inl (.inr ⟨d, ds, rx.dp R.sub c2.1, ry.dp R.sub c2.2, c2.1, c2.2, p.here R (Rp.bl _)⟩)
    | true =>
      rw [c] at h
      cases h
      rw [Bool.and_eq_true] at c
      obtain ⟨a, xs, rfl, qa, _, ra⟩ := ry.tup
      have rx' := flat_rp rx c.1
      obtain ⟨e1, e2⟩ := inV_of rx' c.1 ra c.2
      exact .inr (.inl ⟨a, xs, rfl, .inr (Same.seqT R.sub qa), flatV_of rx' c.1, e2, p.here R (by rw [Bool.false_bne, if_neg Bool.false_ne_true, e1]; exact Rp.bl _)⟩)
  · split at h
    · cases h
      exact .inr (.inr ⟨_, _, rx.str, ry.str, p.here R (by rw [Bool.false_bne]; exact Rp.bl _)⟩)
    · cases h
  · cases h
theorem op2_notIn : Op2 X (rNotInU X.K) (hIn true) := by
  intro J σ fs H S x y d e rv Q R rx ry h p
  unfold hIn at h
  split at h
  · rename_i ds
    cases c : SeqAt.shaped d && SeqAt.shaped (.list ds) with
    | false => rw [c] at h; cases h
    | true =>
      rw [c] at h
      cases h
      rw [Bool.and_eq_true] at c
      exact .inl (.inl ⟨d, ds, rx.dp R.sub c.1, ry.dp R.sub c.2, c.1, c.2, p.here R (by rw [Bool.true_bne]; exact Rp.bl _)⟩)
  · rename_i ds
    cases c : flatD d && ds.all flatD with
    | false =>
      rw [c] at h
      cases c2 : SeqAt.shaped d && SeqAt.shaped (.tuple ds) with
      | false => rw [c2] at h; cases h
      | true =>
        rw [c2] at h
        cases h
        rw [Bool.and_eq_true] at c2
        exact .inl (.inr ⟨d, ds, rx.dp R.sub c2.1, ry.dp R.sub c2.2, c2.1, c2.2, p.here R (Rp.bl _)⟩)
    | true =>
      rw [c] at h
      cases h
      rw [Bool.and_eq_true] at c
      obtain ⟨a, xs, rfl, qa, _, ra⟩ := ry.tup
      have rx' := flat_rp rx c.1
      obtain ⟨e1, e2⟩ := inV_of rx' c.1 ra c.2
      exact .inr (.inl ⟨a, xs, rfl, .inr (Same.seqT R.sub qa), flatV_of rx' c.1, e2, p.here R (by rw [Bool.true_bne, if_pos rfl, e1]; exact Rp.bl _)⟩)
  · split at h
    · cases h
      exact .inr (.inr ⟨_, _, rx.str, ry.str, p.here R (by rw [Bool.true_bne]; exact Rp.bl _)⟩)
    · cases h
  · cases h
/-! is None, is True -/
def isNone : D → Bool
  | .none => true
  | _ => false
def hIs (neg : Bool) (d e : D) : Option Rv := match e with
  | .none => some (.val (.bool (neg != isNone d)))
  | .bool b => match d with
    | .bool a => some (.val (.bool (neg != (a == b))))
    | _ => none
  | _ => none
theorem isNone_of {K : PySem.W.Frag} {S H : Hp} {v : V} {d : D} (h : RpB K S H v d) : decide (v = .non) = isNone d := by
  cases d with
  | none => rw [h.non]; rfl
  | bool b => rw [h.bl]; rfl
  | int i => rw [h.int]; rfl
  | str x => rw [h.str]; rfl
  | list ds => obtain ⟨a, xs, rfl, _⟩ := h.lst; rfl
  | tuple ds => obtain ⟨a, xs, rfl, _⟩ := h.tup; rfl
  | dict ds =>
    rcases h with ⟨a, xs, rfl, _⟩ | ⟨a, xs, es, rfl, _⟩ <;> rfl
abbrev rIsU : R2 := fun x y H Q => (y = .non ∧ Q (.bl (decide (x = .non))) H) ∨ rIsB x y H Q
abbrev rIsNotU : R2 := fun x y H Q => (y = .non ∧ Q (.bl (!decide (x = .non))) H) ∨ rNotB x y H Q
theorem op_isU : OpR X (compareOp .Is) rIsU := op_isN.or op_isBl
theorem op_isNotU : OpR X (compareOp .IsNot) rIsNotU := op_notN.or op_notBl
theorem op2_is : Op2 X rIsU (hIs false) := by
  intro J σ fs H S x y d e rv Q R rx ry h p
  unfold hIs at h
  split at h
  · cases h
    exact .inl ⟨ry.non, p.here R (by rw [Bool.false_bne, isNone_of rx]; exact Rp.bl _)⟩
  · split at h
    · cases h
      exact .inr ⟨_, _, rx.bl, ry.bl, p.here R (by rw [Bool.false_bne, Bool.beq_eq_decide_eq]; exact Rp.bl _)⟩
    · cases h
  · cases h
theorem op2_isNot : Op2 X rIsNotU (hIs true) := by
  intro J σ fs H S x y d e rv Q R rx ry h p
  unfold hIs at h
  split at h
  · cases h
    exact .inl ⟨ry.non, p.here R (by rw [Bool.true_bne, isNone_of rx]; exact Rp.bl _)⟩
  · split at h
    · cases h
      exact .inr ⟨_, _, rx.bl, ry.bl, p.here R (by rw [Bool.true_bne, Bool.beq_eq_decide_eq]; exact Rp.bl _)⟩
    · cases h
  · cases h
/-! x[i] -/
def hIx : D → D → Option Rv
  | .list ds, .int i => (atI ds i).map .val
  | .tuple ds, .int i => (atI ds i).map .val
  | .str s, .int i => if s.length ≤ sizeLine then (atI s.cps.toList i).map fun c => .val (.str ⟨#[c]⟩) else none
  | .dict [(.none, .list ds)], .int i => (atI ds i).map .val
  | _, _ => none
theorem Rps.at {K : PySem.W.Frag} {S : Hp} {xs : List V} {ds : List D} {i : Int} {d : D} (r : Rps K S xs ds) (h : atI ds i = some d) : ∃ v, atI xs i = some v ∧ Rp K S v d := by
  unfold atI at h ⊢
  rw [r.length]
  cases e : ixN ds.length i with
  | none => rw [e] at h; cases h
  | some j =>
    rw [e] at h
    exact r.get h
theorem rpd_scr {K : PySem.W.Frag} {S : Hp} {kvs : List (Key × V)} {ds : List (D × D)} {x : D} (h : Rpd K S kvs ds) (e : ds = [(.none, x)]) : False := by
  cases h with
  | nil => cases e
  | cons r t =>
    rename_i k v vs d ds'
    injection e with e1 e2
    injection e1 with e3 e4
    cases k <;> cases e3
theorem op2_ix : Op2 X (rIx X.K) hIx := by
  intro J σ fs H S x y d e rv Q R rx ry h p
  unfold hIx at h
  split at h
  · obtain ⟨d', h1, rfl⟩ := Option.map_eq_some_iff.mp h
    obtain ⟨a, xs, rfl, qa, ra⟩ := rx.lst
    obtain ⟨v, h2, h3⟩ := ra.at h1
    exact .inl ⟨a, xs, _, v, rfl, ry.int, SqL.of qa, h2, p.here R h3⟩
  · obtain ⟨d', h1, rfl⟩ := Option.map_eq_some_iff.mp h
    obtain ⟨a, xs, rfl, qa, _, ra⟩ := rx.tup
    obtain ⟨v, h2, h3⟩ := ra.at h1
    exact .inr (.inl ⟨a, xs, _, v, rfl, ry.int, Same.seqT R.sub qa, h2, p.here R h3⟩)
  · split at h
    · rename_i hz
      obtain ⟨c, h1, rfl⟩ := Option.map_eq_some_iff.mp h
      exact .inr (.inr ⟨_, _, c, rx.str, ry.int, hz, h1, p.here R (Rp.str _)⟩)
    · cases h
  · obtain ⟨d', h1, rfl⟩ := Option.map_eq_some_iff.mp h
    rcases rx with ⟨a, kvs, rfl, _, r⟩ | ⟨a, xs, es, rfl, e1, qa, ra⟩
    · exact (rpd_scr r rfl).elim
    · cases e1
      obtain ⟨v, h2, h3⟩ := ra.at h1
      exact .inl ⟨a, xs, _, v, rfl, ry.int, qa, h2, p.here R h3⟩
  · cases h
end
section
variable {X : Cx} {J : Inf} {W : WX} {a b : Expr} {f g : M Rv} {pos : Pos}
theorem fe_ix (ha : FE X J W a f) (hb : FE X J W b g) (hs : PlainIx b := by intro _ _; rfl) : FE X J W (.Subscript a b pos) (fBin hIx f g) := by
  obtain ⟨ta, pa, sa⟩ := ha
  obtain ⟨tb, pb, sb⟩ := hb
  exact ⟨_, pe_ix ix_seq pa pb hs, sim_op2 op2_ix sa sb⟩
end
end Fx

namespace Fx
open PySem PySem.Spec PyProof.Rows L2
/-! ### slices -/
abbrev rO : RT (Option Int) (Option Int) := fun _ _ _ _ _ b a => b = a
instance : Early rO := ⟨fun _ r => r⟩
def FO (X : Cx) (J : Inf) (W : WX) (e : Option Expr) (f : M (Option Int)) : Prop := ∃ t, PO X e t ∧ Sim X.K J X.mg W t rO f
def oNone : M (Option Int) := rt none
def oSome (f : M Rv) : M (Option Int) := bnd f fun r fs => match r with
  | .val (.int i) => some (.inr (some i), fs)
  | _ => none
def cutL {α : Type} (xs : List α) (lo hi : Option Int) : List α := (xs.drop (HT.sIx xs.length 0 lo)).take (HT.sIx xs.length xs.length hi - HT.sIx xs.length 0 lo)
def hSl (lo hi : Option Int) : D → Option Rv
  | .list ds => some (.fresh (.list (cutL ds lo hi)))
  | .tuple ds => some (.val (.tuple (cutL ds lo hi)))
  | .str z => if z.length ≤ sizeLine then some (.val (.str (cutS z lo hi))) else none
  | _ => none
def fSl (f : M Rv) (g h : M (Option Int)) : M Rv := bnd f fun x => bnd g fun lo => bnd h fun hi => rd1 (hSl lo hi) x
theorem Rps.cut {K : PySem.W.Frag} {S : Hp} {xs : List V} {ds : List D} (r : Rps K S xs ds) (lo hi : Option Int) : Rps K S (cutV xs lo hi) (cutL ds lo hi) := by
  unfold cutV cutL
  rw [r.length]
  exact (r.drop _).take _
def rSlF (K : PySem.W.Frag) : V → Option Int → Option Int → Hp → VK → Prop := fun x lo hi H Q => ∃ a xs, x = .ref a ∧ SqT K H a xs ∧
  (HT.sIx xs.length 0 lo = 0 ∧ HT.sIx xs.length xs.length hi = xs.length → Q (.ref a) H) ∧ (¬ (HT.sIx xs.length 0 lo = 0 ∧ HT.sIx xs.length xs.length hi = xs.length) → NewT (cutV xs lo hi) H Q)
section
variable {X : Cx} {J : Inf} {W : WX} {e a b : Expr} {es : List Expr} {lo hi : Option Expr} {f g : M Rv} {fl fh : M (Option Int)} {pos p2 : Pos}
theorem fo_none : FO X J W none oNone := ⟨_, po_none, fun σ H S fs Q res fs' R e p => by cases e; exact p.here R rfl⟩
theorem fo_some (h : FE X J W e f) : FO X J W (some e) (oSome f) := by
  obtain ⟨t, p, s⟩ := h
  refine ⟨_, po_some p, fun σ H S fs Q res fs' R e p => ?_⟩
  refine s.bind R e p fun r fs1 v H1 S1 R1 r1 e1 p1 _ _ => ?_
  try dsimp only at e1
  split at e1
  · rename_i i
    cases e1
    cases (show Rp X.K S1 v (.int i) from r1)
    exact ⟨i, rfl, p1.here R1 rfl⟩
  · cases e1
theorem sl_tupF : SlR X (rSlF X.K) := by
  intro pins s σ H x v vl vu lo hi sl Q I rx hs pl pu h
  obtain ⟨a, xs, rfl, hx, q1, q2⟩ := h
  cases rx
  obtain ⟨its, r, ht, hz⟩ := I.tuple hx
  have hlen : its.toArray.size = xs.length := by rw [List.size_toArray]; exact r.length.symm
  refine ⟨"tuple", _, PyProof.Rows.slot_tuple_getitem.lookup, ht.typeIs, ?_⟩
  by_cases hw : HT.sIx xs.length 0 lo = 0 ∧ HT.sIx xs.length xs.length hi = xs.length
  · exact getItem_tuple_whole ht hs pl pu (by rw [hlen]; exact hw) ⟨.ref a, H, I, rfl, q1 hw⟩
  · refine HT.getItem_tuple_cut ht hs pl pu (by rw [hlen]; exact hw) ?_ (by rw [hlen]; exact hz)
    rw [hlen]
    exact NewT.ep (q2 hw) I ((r.drop _).take _) (Nat.le_trans (cutV_length xs lo hi) hz)
abbrev rSlU (K : PySem.W.Frag) : V → Option Int → Option Int → Hp → VK → Prop := fun x lo hi H Q => rSlL K x lo hi H Q ∨ (rSlF K x lo hi H Q ∨ rSlS x lo hi H Q)
theorem sl_any : SlR X (rSlU X.K) := sl_list.or (sl_tupF.or sl_str)
theorem cut_whole {α : Type} {xs : List α} {lo hi : Option Int} (h : HT.sIx xs.length 0 lo = 0 ∧ HT.sIx xs.length xs.length hi = xs.length) : cutL xs lo hi = xs := by
  unfold cutL
  rw [h.1, h.2]
  simp
theorem op1_sl {lo hi : Option Int} : Op1 X (fun x H Q => rSlU X.K x lo hi H Q) (hSl lo hi) := by
  intro J σ fs H S x d rv Q R rx h p
  unfold hSl at h
  split at h
  · cases h
    obtain ⟨a, xs, rfl, qa, ra⟩ := rx.lst
    exact .inl ⟨a, xs, rfl, SqL.of qa, fun l hl => p.newL R (ra.cut lo hi) hl⟩
  · cases h
    obtain ⟨a, xs, rfl, qa, pa, ra⟩ := rx.tup
    refine .inr (.inl ⟨a, xs, rfl, Same.seqT R.sub qa, fun hw => ?_, fun _ l o hl hd => p.newT R (ra.cut lo hi) hl hd⟩)
    rw [ra.length] at hw
    rw [cut_whole hw] at p
    exact p.here R (Rp.tup qa pa ra)
  · split at h
    · rename_i hz
      cases h
      exact .inr (.inr ⟨_, rx.str, hz, p.here R (Rp.str _)⟩)
    · cases h
  · cases h
theorem fe_slice (he : FE X J W e f) (hl : FO X J W lo fl) (hu : FO X J W hi fh) : FE X J W (.Subscript e (.Slice lo hi none p2) pos) (fSl f fl fh) := by
  obtain ⟨te, pe, se⟩ := he
  obtain ⟨tl, pl, sl⟩ := hl
  obtain ⟨th, ph, sh⟩ := hu
  refine ⟨_, pe_slice sl_any pe pl ph, fun σ H S fs Q res fs' R e p => ?_⟩
  refine se.bind R e p fun rx fs1 x H1 S1 R1 r1 e1 p1 st1 sh1 => ?_
  refine sl.bind R1 e1 p1 fun lo fs2 lo' H2 S2 R2 r2 e2 p2 st2 sh2 => ?_
  cases r2
  refine sh.bind R2 e2 p2 fun hi fs3 hi' H3 S3 R3 r3 e3 p3 st3 sh3 => ?_
  cases r3
  exact rd1_run op1_sl R3 ((r1.later st2 sh2).later st3 sh3) e3 p3

/-! ### built-ins by name: the arguments read just then -/
def rdAll (fs : Fs) : List Rv → Option (List D)
  | [] => some []
  | r :: rs => match r.rd fs, rdAll fs rs with
    | some d, some ds => some (d :: ds)
    | _, _ => none
def fNm (h : List D → Option Rv) (f : M (List Rv)) : M Rv := bnd f fun rs fs => match rdAll fs rs with
  | some ds => match h ds with
    | some rv => some (.inr rv, fs)
    | none => none
  | none => none
theorem rdAll_run {σ : St} {fs : Fs} {H S Hs : Hp} (R : Rel X.K J σ H S fs) : ∀ {vs : List V} {rs : List Rv} {ds : List D}, RvsR X.K σ fs Hs H S vs rs → rdAll fs rs = some ds → RpBs X.K S H vs ds
  | _, _, _, .nil, e => by cases e; exact .nil
  | _, _, ds, .cons r t, e => by
    simp only [rdAll] at e
    split at e
    · rename_i d ds' q1 q2
      cases e
      exact .cons (r.rd R q1) (rdAll_run R t q2)
    · cases e
theorem sim_nm {t : TA} {o : List V → Hp → VK → Prop} {h : List D → Option Rv} {fas : M (List Rv)} (ho : OpN X o h) (sa : Sim X.K J X.mg W t (rVs X.K) fas) : Sim X.K J X.mg W (tCB o t) (rV X.K) (fNm h fas) := by
  intro σ H S fs Q res fs' R e p
  refine sa.bind R e p fun rs fs1 vs H1 S1 R1 r1 e1 p1 st1 sh1 => ?_
  try dsimp only at e1
  split at e1
  · rename_i ds q
    split at e1
    · rename_i rv q2
      cases e1
      exact ho J σ _ H1 S1 vs ds rv Q R1 (rdAll_run R1 r1 q) q2 p1.toV
    · cases e1
  · cases e1
theorem fe_callB {x : Str} {p : Pos} {id : String} {o : List V → Hp → VK → Prop} {h : List D → Option Rv} {fas : M (List Rv)} (hc : CallR X (.builtin id) o) (ho : OpN X o h) (hg : Gl X x) (hm : X.mg x = none) (hv : bootBuiltins x = some (.builtin id)) (ha : FA X J W (e :: es) fas)
    (hn : x ≠ "__name__" := by decide) (hdb : (x == ("__debug__" : Str)) = false := by decide)
    (he : starEach (e :: es) X.env = (false, eval e X.env) :: starEach es X.env := by rfl) (hpl : (backTo pos (starEach es X.env)).any (·.1) = false := by rfl) : FE X J W (.Call (.Name x p) (e :: es) [] pos) (fNm h fas) := by
  obtain ⟨t, pa, sa⟩ := ha
  exact ⟨_, pe_callB hc hg hm hv pa hn hdb he hpl, sim_nm ho sa⟩
theorem fe_callTy {x : Str} {p : Pos} {T : String} {o : List V → Hp → VK → Prop} {h : List D → Option Rv} {fas : M (List Rv)} (hc : CallR X (.type T) o) (ho : OpN X o h) (hg : Gl X x) (hm : X.mg x = none) (hv : bootBuiltins x = some (.type T)) (ha : FA X J W (e :: es) fas)
    (hn : x ≠ "__name__" := by decide) (hdb : (x == ("__debug__" : Str)) = false := by decide)
    (he : starEach (e :: es) X.env = (false, eval e X.env) :: starEach es X.env := by rfl) (hpl : (backTo pos (starEach es X.env)).any (·.1) = false := by rfl) : FE X J W (.Call (.Name x p) (e :: es) [] pos) (fNm h fas) := by
  obtain ⟨t, pa, sa⟩ := ha
  exact ⟨_, pe_callTy hc hg hm hv pa hn hdb he hpl, sim_nm ho sa⟩
theorem RpBs.one {K : PySem.W.Frag} {S H : Hp} {vs : List V} {d : D} (h : RpBs K S H vs [d]) : ∃ v, vs = [v] ∧ RpB K S H v d := by
  cases h with
  | cons r t => cases t; exact ⟨_, rfl, r⟩
theorem RpBs.two {K : PySem.W.Frag} {S H : Hp} {vs : List V} {d e : D} (h : RpBs K S H vs [d, e]) : ∃ v u, vs = [v, u] ∧ RpB K S H v d ∧ RpB K S H u e := by
  cases h with
  | cons r t =>
    cases t with
    | cons r' t => cases t; exact ⟨_, _, rfl, r, r'⟩
/-! len -/
def hLen : List D → Option Rv
  | [.list ds] => some (.val (.int ds.length))
  | [.tuple ds] => some (.val (.int ds.length))
  | [.str s] => if s.length ≤ sizeLine then some (.val (.int s.length)) else none
  | [.dict [(.none, .list ds)]] => some (.val (.int ds.length))
  | _ => none
theorem opn_len : OpN X (fun xs H Q => ∃ x n, xs = [x] ∧ LenV X.K x H n ∧ Q (.int n) H) hLen := by
  intro J σ fs H S xs ds rv Q R r h p
  unfold hLen at h
  split at h
  · cases h
    obtain ⟨v, rfl, ry⟩ := r.one
    obtain ⟨a, xs, rfl, qa, ra⟩ := ry.lst
    exact ⟨_, _, rfl, .inl ⟨xs, SqL.of qa, rfl⟩, p.here R (by rw [ra.length]; exact Rp.int _)⟩
  · cases h
    obtain ⟨v, rfl, ry⟩ := r.one
    obtain ⟨a, xs, rfl, qa, _, ra⟩ := ry.tup
    exact ⟨_, _, rfl, .inr ⟨xs, Same.seqT R.sub qa, rfl⟩, p.here R (by rw [ra.length]; exact Rp.int _)⟩
  · split at h
    · rename_i hz
      cases h
      obtain ⟨v, rfl, ry⟩ := r.one
      exact ⟨_, _, rfl, by rw [ry.str]; exact ⟨hz, rfl⟩, p.here R (Rp.int _)⟩
    · cases h
  · cases h
    obtain ⟨v, rfl, ry⟩ := r.one
    rcases ry with ⟨a, kvs, hv, _, rz⟩ | ⟨a, xs, es, rfl, e1, qa, ra⟩
    · exact (rpd_scr rz rfl).elim
    · cases e1
      exact ⟨_, _, rfl, .inl ⟨xs, qa, rfl⟩, p.here R (by rw [ra.length]; exact Rp.int _)⟩
  · cases h
/-! abs, max, min of two, int -/
def hAbs : List D → Option Rv
  | [.int i] => some (.val (.int (if i < 0 then -i else i)))
  | _ => none
theorem opn_abs : OpN X (fun xs H Q => ∃ i, xs = [.int i] ∧ Q (.int (if i < 0 then -i else i)) H) hAbs := by
  intro J σ fs H S xs ds rv Q R r h p
  unfold hAbs at h
  split at h
  · cases h
    obtain ⟨v, rfl, ry⟩ := r.one
    exact ⟨_, by rw [ry.int], p.here R (Rp.int _)⟩
  · cases h
def hMax2 : List D → Option Rv
  | [.int i, .int j] => some (.val (.int (if j > i then j else i)))
  | _ => none
theorem opn_max2 : OpN X (fun xs H Q => ∃ i j, xs = [.int i, .int j] ∧ Q (.int (if j > i then j else i)) H) hMax2 := by
  intro J σ fs H S xs ds rv Q R r h p
  unfold hMax2 at h
  split at h
  · cases h
    obtain ⟨v, u, rfl, ry, rz⟩ := r.two
    exact ⟨_, _, by rw [ry.int, rz.int], p.here R (Rp.int _)⟩
  · cases h
def hMin2 : List D → Option Rv
  | [.int i, .int j] => some (.val (.int (if j < i then j else i)))
  | _ => none
theorem opn_min2 : OpN X (fun xs H Q => ∃ i j, xs = [.int i, .int j] ∧ Q (.int (if j < i then j else i)) H) hMin2 := by
  intro J σ fs H S xs ds rv Q R r h p
  unfold hMin2 at h
  split at h
  · cases h
    obtain ⟨v, u, rfl, ry, rz⟩ := r.two
    exact ⟨_, _, by rw [ry.int, rz.int], p.here R (Rp.int _)⟩
  · cases h
def hInt1 : List D → Option Rv
  | [.int i] => some (.val (.int i))
  | [.bool b] => some (.val (.int (if b then 1 else 0)))
  | _ => none
theorem opn_int1 : OpN X (fun xs H Q => (∃ i, xs = [.int i] ∧ Q (.int i) H) ∨ ∃ k, xs = [.bl k] ∧ Q (.int (if k then 1 else 0)) H) hInt1 := by
  intro J σ fs H S xs ds rv Q R r h p
  unfold hInt1 at h
  split at h
  · cases h
    obtain ⟨v, rfl, ry⟩ := r.one
    exact .inl ⟨_, by rw [ry.int], p.here R (Rp.int _)⟩
  · cases h
    obtain ⟨v, rfl, ry⟩ := r.one
    exact .inr ⟨_, by rw [ry.bl], p.here R (Rp.int _)⟩
  · cases h
/-! list(x), tuple(x) -/
def hList : List D → Option Rv
  | [.list ds] => some (.fresh (.list ds))
  | [.tuple ds] => some (.fresh (.list ds))
  | _ => none
theorem opn_list : OpN X (fun xs H Q => ∃ p ys, xs = [.ref p] ∧ (SqL X.K H p ys ∨ SqT X.K H p ys) ∧ ∀ l, H l = none → Q (.ref l) (upd H l (.lst ys))) hList := by
  intro J σ fs H S xs ds rv Q R r h p
  unfold hList at h
  split at h
  · cases h
    obtain ⟨v, rfl, ry⟩ := r.one
    obtain ⟨a, xs, rfl, qa, ra⟩ := ry.lst
    exact ⟨a, xs, rfl, .inl (SqL.of qa), fun l hl => p.newL R ra hl⟩
  · cases h
    obtain ⟨v, rfl, ry⟩ := r.one
    obtain ⟨a, xs, rfl, qa, _, ra⟩ := ry.tup
    exact ⟨a, xs, rfl, .inr (Same.seqT R.sub qa), fun l hl => p.newL R ra hl⟩
  · cases h
def hTuple : List D → Option Rv
  | [.list ds] => some (.val (.tuple ds))
  | [.tuple ds] => some (.val (.tuple ds))
  | _ => none
def rTupleF (K : PySem.W.Frag) : List V → Hp → VK → Prop := fun xs H Q => ∃ p ys, xs = [.ref p] ∧ ((SqL K H p ys ∧ NewT ys H Q) ∨ (SqT K H p ys ∧ Q (.ref p) H))
theorem call_tupleF : CallR X (.type "tuple") (rTupleF X.K) := by
  intro pins s σ H xs us Q I r h
  obtain ⟨p, ys, rfl, h⟩ := h
  obtain ⟨u, rfl, rx⟩ := vals1 r
  cases rx
  rcases h with ⟨hq, q⟩ | ⟨hq, q⟩
  · obtain ⟨its, r', pl, hz⟩ := I.list hq
    have hlen := r'.length
    refine call_tuple_list pl.isList (fun h' kp => ?_) (by simp only [List.size_toArray] <;> omega)
    have I1 : Inv X pins σ H { s with heap := h' } := I.kept (t' := s.toks) kp
    exact NewT.ep (s := { s with heap := h' }) (t' := s.toks) q I1 r' hz
  · obtain ⟨its, r', pl, hz⟩ := I.tuple hq
    exact call_tuple_same pl ⟨.ref p, H, I, rfl, q⟩
theorem opn_tuple : OpN X (rTupleF X.K) hTuple := by
  intro J σ fs H S xs ds rv Q R r h p
  unfold hTuple at h
  split at h
  · cases h
    obtain ⟨v, rfl, ry⟩ := r.one
    obtain ⟨a, xs, rfl, qa, ra⟩ := ry.lst
    exact ⟨a, xs, rfl, .inl ⟨SqL.of qa, fun l o hl hd => p.newT R ra hl hd⟩⟩
  · cases h
    obtain ⟨v, rfl, ry⟩ := r.one
    obtain ⟨a, xs, rfl, qa, pa, ra⟩ := ry.tup
    exact ⟨a, xs, rfl, .inr ⟨Same.seqT R.sub qa, p.here R (Rp.tup qa pa ra)⟩⟩
  · cases h
/-! divmod -/
def rDivmod : List V → Hp → VK → Prop := fun xs H Q => ∃ i j, xs = [.int i, .int j] ∧ divOk i j = true ∧ NewT [.int (i.fdiv j), .int (i.fmod j)] H Q
theorem call_divmodF : CallR X (.builtin "divmod") rDivmod := by
  intro pins s σ H xs us Q I r h
  obtain ⟨i, j, rfl, hc, q⟩ := h
  obtain ⟨u, w', rfl, ⟨t, rfl⟩, ⟨t', rfl⟩⟩ := vals2 r
  unfold divOk at hc
  rw [Bool.and_eq_true] at hc
  refine divmod_int (by simpa using hc.1) ?_ (.inl (PyProof.noPylong_of_log2 (of_decide_eq_true hc.2)))
  exact NewT.ep (us := [.int (i.fdiv j) s.toks, .int (i.fmod j) (s.toks + 1)]) q I (.cons ⟨_, rfl⟩ (.cons ⟨_, rfl⟩ .nil)) (by simp only [List.length_cons, List.length_nil]; rw [sizeLine_eq]; decide)
def hDivmod : List D → Option Rv
  | [.int i, .int j] => bif divOk i j then some (.val (.tuple [.int (i.fdiv j), .int (i.fmod j)])) else none
  | _ => none
theorem opn_divmod : OpN X rDivmod hDivmod := by
  intro J σ fs H S xs ds rv Q R r h p
  unfold hDivmod at h
  split at h
  · rename_i i j
    cases hc : divOk i j with
    | false => rw [hc] at h; cases h
    | true =>
      rw [hc] at h
      cases h
      obtain ⟨v, u, rfl, ry, rz⟩ := r.two
      exact ⟨i, j, by rw [ry.int, rz.int], hc, fun l o hl hd => p.newT R (.cons (.int _) (.cons (.int _) .nil)) hl hd⟩
  · cases h
/-! max of a list of ints; sorted; all, any -/
def asInts : List D → Option (List Int)
  | [] => some []
  | .int i :: r => (asInts r).map fun ns => i :: ns
  | _ :: _ => none
theorem asInts_eq : ∀ {ds : List D} {ns : List Int}, asInts ds = some ns → ds = ns.map PyData.int
  | [], _, h => by cases h; rfl
  | .int i :: r, ns, h => by
    obtain ⟨ms, h1, rfl⟩ := Option.map_eq_some_iff.mp (show (asInts r).map (fun ns => i :: ns) = some ns from h)
    rw [asInts_eq h1]; rfl
  | .none :: _, _, h => by cases h
  | .bool _ :: _, _, h => by cases h
  | .str _ :: _, _, h => by cases h
  | .list _ :: _, _, h => by cases h
  | .tuple _ :: _, _, h => by cases h
  | .dict _ :: _, _, h => by cases h
theorem asInts_map : ∀ ns : List Int, asInts (ns.map PyData.int) = some ns
  | [] => rfl
  | n :: ns => by show (asInts (ns.map PyData.int)).map _ = _; rw [asInts_map ns]; rfl
def asBools : List D → Option (List Bool)
  | [] => some []
  | .bool i :: r => (asBools r).map fun ns => i :: ns
  | _ :: _ => none
theorem asBools_eq : ∀ {ds : List D} {ns : List Bool}, asBools ds = some ns → ds = ns.map PyData.bool
  | [], _, h => by cases h; rfl
  | .bool i :: r, ns, h => by
    obtain ⟨ms, h1, rfl⟩ := Option.map_eq_some_iff.mp (show (asBools r).map (fun ns => i :: ns) = some ns from h)
    rw [asBools_eq h1]; rfl
  | .none :: _, _, h => by cases h
  | .int _ :: _, _, h => by cases h
  | .str _ :: _, _, h => by cases h
  | .list _ :: _, _, h => by cases h
  | .tuple _ :: _, _, h => by cases h
  | .dict _ :: _, _, h => by cases h
theorem asBools_map : ∀ ns : List Bool, asBools (ns.map PyData.bool) = some ns
  | [] => rfl
  | n :: ns => by show (asBools (ns.map PyData.bool)).map _ = _; rw [asBools_map ns]; rfl
theorem Rps.bls {K : PySem.W.Frag} {S : Hp} : ∀ {vs : List V} {ns : List Bool}, Rps K S vs (ns.map PyData.bool) → vs = ns.map V.bl
  | [], [], _ => rfl
  | [], _ :: _, h => by cases h
  | _ :: _, [], h => by cases h
  | v :: vs, n :: ns, h => by
    cases h with
    | cons r t =>
      cases r
      rw [List.map_cons, Rps.bls t]
/-- the greatest -/
def maxI : List Int → Int
  | [] => 0
  | n :: ns => ns.foldl max n
theorem foldl_max_ge : ∀ (ns : List Int) (a : Int), a ≤ ns.foldl max a ∧ ∀ y ∈ ns, y ≤ ns.foldl max a
  | [], a => ⟨Int.le_refl _, fun _ h => by cases h⟩
  | n :: ns, a => by
    obtain ⟨h1, h2⟩ := foldl_max_ge ns (max a n)
    refine ⟨Int.le_trans (Int.le_max_left a n) h1, fun y hy => ?_⟩
    rcases List.mem_cons.mp hy with rfl | hy
    · exact Int.le_trans (Int.le_max_right a _) h1
    · exact h2 y hy
theorem foldl_max_mem : ∀ (ns : List Int) (a : Int), ns.foldl max a = a ∨ ns.foldl max a ∈ ns
  | [], a => .inl rfl
  | n :: ns, a => by
    rcases foldl_max_mem ns (max a n) with h | h
    · rcases Int.le_total a n with q | q
      · right
        show ns.foldl max (max a n) ∈ n :: ns
        rw [h, Int.max_eq_right q]
        exact List.mem_cons_self
      · left
        show ns.foldl max (max a n) = a
        rw [h, Int.max_eq_left q]
    · exact .inr (List.mem_cons_of_mem _ h)
theorem maxI_mem {ns : List Int} (h : ns ≠ []) : maxI ns ∈ ns := by
  cases ns with
  | nil => exact absurd rfl h
  | cons n ns =>
    rcases foldl_max_mem ns n with q | q
    · show ns.foldl max n ∈ _
      rw [q]; exact List.mem_cons_self
    · exact List.mem_cons_of_mem _ q
theorem maxI_ge {ns : List Int} {y : Int} (h : y ∈ ns) : y ≤ maxI ns := by
  cases ns with
  | nil => cases h
  | cons n ns =>
    obtain ⟨h1, h2⟩ := foldl_max_ge ns n
    rcases List.mem_cons.mp h with rfl | h
    · exact h1
    · exact h2 y h
theorem max_unique {ns : List Int} {m : Int} (h1 : m ∈ ns) (h2 : ∀ y, y ∈ ns → y ≤ m) : m = maxI ns :=
  Int.le_antisymm (maxI_ge h1) (h2 _ (maxI_mem fun e => by rw [e] at h1; cases h1))
def hMax1 : List D → Option Rv
  | [.list ds] => match asInts ds with
    | some (n :: ns) => some (.val (.int (maxI (n :: ns))))
    | _ => none
  | [.tuple ds] => match asInts ds with
    | some (n :: ns) => some (.val (.int (maxI (n :: ns))))
    | _ => none
  | _ => none
/-- max of a tuple of ints -/
def rMaxT (K : PySem.W.Frag) : List V → Hp → VK → Prop := fun vs H Q => ∃ (a : Addr) (n : Int) (ns : List Int), vs = [V.ref a] ∧ SqT K H a ((n :: ns).map V.int) ∧ Q (.int (maxI (n :: ns))) H
theorem reads_ints {h : Heap} : ∀ {us : List Value} {ns : List Int}, Vals (ns.map V.int) us → ∃ as, ReadsAll h us (ns.map PyData.int) as
  | _, [], r => by cases r; exact ⟨_, ReadsAll.nil⟩
  | _, n :: ns, r => by
    cases r with
    | cons r1 r2 =>
      obtain ⟨t, e⟩ := r1
      subst e
      obtain ⟨as, q⟩ := reads_ints (h := h) r2
      exact ⟨_, ReadsAll.cons (Reads.int n t) q⟩
end
end Fx

namespace Fx
open PySem PySem.Spec PyProof.Rows L2
/-! ### max, sorted of a tuple of ints -/
section
variable {X : Cx}
theorem alike_ints (ns : List Int) : PySem.W.AlikeAll (ns.map PyData.int) := by
  refine ⟨fun x hx y hy => ?_, fun x hx => ?_⟩
  · obtain ⟨i, _, rfl⟩ := List.mem_map.mp hx
    obtain ⟨j, _, rfl⟩ := List.mem_map.mp hy
    rfl
  · obtain ⟨i, _, rfl⟩ := List.mem_map.mp hx
    exact fun h => nomatch h
theorem call_maxT (hc : X.calm = true) (hu : X.A.units + 65 < cLine) : CallR X (.builtin "max") (rMaxT X.K) := by
  intro pins s σ H vs us Q I r h
  obtain ⟨a, n, ns, rfl, hs, q⟩ := h
  obtain ⟨its, rv, hl, _⟩ := I.tuple hs
  rw [Vals.ref1 r]
  obtain ⟨as, hr⟩ := reads_ints (h := s.heap) rv
  refine PySem.W.max_tuple_data (as := as) (x := .int n) (xs := ns.map PyData.int) (I.ok.hd hc) hl (by simpa using hr) (alike_ints (n :: ns)) (by
    have : PyData.depthAll ((n :: ns).map PyData.int) = 0 := PyProof.Rows.depthAll_ints _
    show X.A.units + 1 + PyData.depthAll ((n :: ns).map PyData.int) < cLine
    rw [this]; omega) fun i v h' tk bs hv hv2 hk => ?_
  rw [PySem.W.maxD_ints] at hv2
  cases hv2 with
  | int i t => exact ⟨.int _, H, I.kept hk, ⟨t, rfl⟩, q⟩
theorem opn_max1 : OpN X (fun xs H Q => rMax X.K xs H Q ∨ rMaxT X.K xs H Q) hMax1 := by
  intro J σ fs H S xs ds rv Q R r h p
  unfold hMax1 at h
  split at h
  · split at h
    · rename_i n ns e
      cases h
      have e' := asInts_eq e
      subst e'
      obtain ⟨v, rfl, ry⟩ := r.one
      obtain ⟨a, xs, rfl, qa, ra⟩ := ry.lst
      have := ra.ints
      subst this
      exact .inl ⟨a, n :: ns, rfl, SqL.of qa, Nat.succ_pos _, fun m h1 h2 => by rw [max_unique h1 h2]; exact p.here R (Rp.int _)⟩
    · cases h
  · split at h
    · rename_i n ns e
      cases h
      have e' := asInts_eq e
      subst e'
      obtain ⟨v, rfl, ry⟩ := r.one
      obtain ⟨a, xs, rfl, qa, _, ra⟩ := ry.tup
      have := ra.ints
      subst this
      exact .inr ⟨a, n, ns, rfl, Same.seqT R.sub qa, p.here R (Rp.int _)⟩
    · cases h
  · cases h
/-- the items of a tuple -/
theorem collect_tup {prog : Program} {w : World} {A : Around} {E : Value → Shared → Prop} {s : Shared} {l : Addr} {vs : List Value} {Q : List Value → Shared → Prop} (hl : s.heap.IsTuple l vs.toArray)
    (h : Q vs { s with heap := (s.heap.push (seqObj "list" #[] 0)).update s.heap.objs.size (Obj.mapSeq (· ++ vs.toArray)) }) (hsz : vs.length ≤ sizeLine) :
    wpAny (model prog w) A (collect (.ref l)) Q E s := by
  obtain ⟨o, ho, hc, n, hd⟩ := id hl
  unfold collect
  refine wpAny_bind (wpAny_runValue (codeAny_builtin entry_proto_collect' ?_))
  show wpAny _ _ (do again (.builtin "list.__iadd__" ⟨[← newList [], .ref l], []⟩)) _ _ s
  refine wpAny_bind (wpAny_newList (wpAny_pure ⟨Code.quiet_builtin _ (by decide +kernel), codeAny_builtin entry_list_iadd' ?_⟩))
  show wpAny _ _ (Builtin.List.listExtendWith (.ref s.heap.objs.size) (.ref l) (.ref s.heap.objs.size)) _ _ { s with heap := s.heap.push (seqObj "list" #[] 0) }
  unfold Builtin.List.listExtendWith
  have ho' : (s.heap.push (seqObj "list" #[] 0)).get? l = some o := Heap.get?_push_of_some _ ho
  refine wpAny_bind (wpAny_typeOf (T := "tuple") ⟨o, ho', hc⟩ ?_)
  have ht : (Value.type "tuple" == Value.type "tuple") = true := by rfl
  rw [if_pos (by rw [ht]; simp)]
  refine wpAny_bind (listItems_at ho' hd ?_)
  refine wpAny_bind (listItems_at (xs := #[]) (n := 0) (Heap.get?_push_size _ rfl) rfl ?_)
  rw [if_neg (by simp)]
  refine wpAny_bind (listUpdate_at (xs := #[]) (n := 0) (Heap.get?_push_size _ rfl) rfl ?_ (Nat.zero_le _) (by show (#[] ++ vs.toArray).size ≤ sizeLine + 1; simp only [Array.size_append, List.size_toArray, List.length_nil]; omega))
  refine wpAny_pure ?_
  show wpAny (model prog w) A (do
      let o ← load s.heap.objs.size
      match o.data with
      | .seq xs _ => pure xs.toList
      | _ => unsupported "internal:collect") Q E { s with heap := (s.heap.push (seqObj "list" #[] 0)).update s.heap.objs.size (Obj.mapSeq (· ++ vs.toArray)) }
  refine wpAny_bind (wpAny_load (get?_update_seq (Heap.get?_push_size _ rfl) _) ?_)
  show wpAny _ _ (pure ((#[] : Array Value) ++ vs.toArray).toList) Q E _
  rw [show ((#[] : Array Value) ++ vs.toArray).toList = vs by simp]
  exact wpAny_pure h
theorem sorted_ordT {prog : Program} {w : World} {A : Around} {E : Value → Shared → Prop} {s : Shared} {l : Addr} {vs : List Value} {ltv : Value → Value → Bool} {Q : Value → Shared → Prop} (O : SrtO.Swo ltv) (hl : s.heap.IsTuple l vs.toArray) (hz : vs.length ≤ sizeLine)
    (hS : 2 ≤ vs.length → ∀ (h₁ : Heap) (a : Addr), h₁.get? a = some (seqObj "list" vs.toArray 0) → (∀ b o, s.heap.get? b = some o → b ≠ a ∧ h₁.get? b = some o) → SrtO.SortableO prog w A.in1.in1 { s with heap := h₁ } a vs ltv)
    (h : ∀ out : List Value, SrtO.Srtd ltv out → SrtO.Stb ltv out vs → Q (.ref (s.heap.objs.size + 1)) { s with heap := sortedAll s.heap vs out.toArray }) :
    wpAny (model prog w) A (call (.builtin "sorted") [.ref l]) Q E s := by
  refine Calls.call_function_entry kind_sorted plain_sorted entry_sorted (args_sorted1 _) ?_
  unfold Builtin.«sorted»
  refine wpAny_bind (m := checkCount "sorted" 1 1 _) (wpAny_pure ?_)
  refine wpAny_bind (collect_tup hl ?_ hz)
  refine wpAny_bind (wpAny_newList ?_ hz)
  have hsz : ((s.heap.push (seqObj "list" #[] 0)).update s.heap.objs.size (Obj.mapSeq (· ++ vs.toArray))).objs.size = s.heap.objs.size + 1 := by
    rw [Heap.size_update, size_push']
  have hoL : (((s.heap.push (seqObj "list" #[] 0)).update s.heap.objs.size (Obj.mapSeq (· ++ vs.toArray))).push (seqObj "list" vs.toArray 0)).get? (s.heap.objs.size + 1) = some (seqObj "list" vs.toArray 0) := by
    rw [← hsz]; exact Heap.get?_push_size _ rfl
  have keep : ∀ b o, s.heap.get? b = some o → b ≠ s.heap.objs.size + 1 ∧ (((s.heap.push (seqObj "list" #[] 0)).update s.heap.objs.size (Obj.mapSeq (· ++ vs.toArray))).push (seqObj "list" vs.toArray 0)).get? b = some o := fun b o q => by
    have hlt : b < s.heap.objs.size := Heap.lt_size q
    refine ⟨Nat.ne_of_lt (Nat.lt_succ_of_lt hlt), Heap.get?_push_of_some _ ?_⟩
    rw [Heap.get?_update_ne _ _ _ _ (Nat.ne_of_lt hlt)]
    exact Heap.get?_push_of_some _ q
  show wpAny _ _ _ _ _ { s with heap := ((s.heap.push (seqObj "list" #[] 0)).update s.heap.objs.size (Obj.mapSeq (· ++ vs.toArray))).push (seqObj "list" vs.toArray 0) }
  rw [hsz]
  refine wpAny_bind (wpAny_holding (wpAny_call_entry slot_list_sort ⟨_, hoL, rfl⟩ entry_list_sort (SrtO.list_sort_ord O hoL hz (fun h2 => hS h2 _ _ hoL keep) fun out hs hb => ⟨_, rfl, ?_⟩) (args_list_sort _)))
  exact wpAny_pure ⟨_, rfl, h out hs hb⟩
def rSortedT' (K : PySem.W.Frag) : List V → Hp → VK → Prop := fun vs H Q => ∃ (a : Addr) (ns : List Int), vs = [V.ref a] ∧ SqT K H a (ns.map V.int) ∧
  ∀ (ns' : List Int) (p : Addr), ns'.Perm ns → ns'.Pairwise (· ≤ ·) → H p = none → Q (.ref p) (upd H p (.lst (ns'.map V.int)))
theorem cr_sortedIT : CallR X (.builtin "sorted") (rSortedT' X.K) := by
  intro pins s σ H vs us Q I r h
  obtain ⟨a, ns, rfl, hs, q⟩ := h
  obtain ⟨its, rv, hl, hz⟩ := I.tuple hs
  rw [Vals.ref1 r]
  have hi := rv.ints
  refine sorted_ordT SrtO.swo_int hl (by rw [← rv.length]; exact hz) (fun h2 h₁ a' _ _ => SrtO.ints_sortable hi h2) fun out h1 h2 => ?_
  obtain ⟨k1, k2, k3⟩ := SrtO.ints_out hi h1 h2
  obtain ⟨ep, he'⟩ := PyProof.Rows.sortedAll_at s.heap its out.toArray
  have hlen : ((out.map SrtO.iv).map V.int).length ≤ sizeLine := by
    rw [List.length_map, k2.length_eq]
    rw [List.length_map] at hz
    exact hz
  exact ⟨.ref _, upd H (s.heap.objs.size + 1) (.lst ((out.map SrtO.iv).map V.int)), I.laid (t' := s.toks) (fun _ _ => PyProof.Rows.sortedAll_old) (Nat.le_succ _) ⟨hlen, out, ep, vals_of_ints k1, he'⟩, rfl, q _ _ k2 k3 (I.hok.fresh (Nat.le_succ _))⟩
/-- rising -/
def srtI (ns : List Int) : List Int := ns.mergeSort (fun a b => decide (a ≤ b))
theorem srtI_perm (ns : List Int) : (srtI ns).Perm ns := List.mergeSort_perm _ _
theorem srtI_rising (ns : List Int) : (srtI ns).Pairwise (· ≤ ·) := by
  have h := List.pairwise_mergeSort (le := fun a b : Int => decide (a ≤ b)) (by simp; omega) (by simp; omega) ns
  exact h.imp (by simp)
theorem srtI_of {ns ms : List Int} (h1 : ms.Perm ns) (h2 : ms.Pairwise (· ≤ ·)) : ms = srtI ns := PySem.W.ksm_same (h1.trans (srtI_perm ns).symm) h2 (srtI_rising ns)
def hSorted : List D → Option Rv
  | [.list ds] => match asInts ds with
    | some ns => some (.fresh (.list ((srtI ns).map PyData.int)))
    | none => none
  | [.tuple ds] => match asInts ds with
    | some ns => some (.fresh (.list ((srtI ns).map PyData.int)))
    | none => none
  | _ => none
theorem opn_sorted : OpN X (fun xs H Q => rSortedI X.K xs H Q ∨ rSortedT' X.K xs H Q) hSorted := by
  intro J σ fs H S xs ds rv Q R r h p
  unfold hSorted at h
  split at h
  · split at h
    · rename_i ns e
      cases h
      have e' := asInts_eq e
      subst e'
      obtain ⟨v, rfl, ry⟩ := r.one
      obtain ⟨a, xs, rfl, qa, ra⟩ := ry.lst
      have := ra.ints
      subst this
      exact .inl ⟨a, ns, rfl, SqL.of qa, fun m l h1 h2 hl => by rw [srtI_of h1 h2]; exact p.newL R (Rps.of_ints _) hl⟩
    · cases h
  · split at h
    · rename_i ns e
      cases h
      have e' := asInts_eq e
      subst e'
      obtain ⟨v, rfl, ry⟩ := r.one
      obtain ⟨a, xs, rfl, qa, _, ra⟩ := ry.tup
      have := ra.ints
      subst this
      exact .inr ⟨a, ns, rfl, Same.seqT R.sub qa, fun m l h1 h2 hl => by rw [srtI_of h1 h2]; exact p.newL R (Rps.of_ints _) hl⟩
    · cases h
  · cases h
/-! all, any, sum -/
def hAll : List D → Option Rv
  | [.list ds] => match asBools ds with
    | some ns => some (.val (.bool (ns.all id)))
    | none => none
  | _ => none
theorem opn_all : OpN X (rAll X.K) hAll := by
  intro J σ fs H S xs ds rv Q R r h p
  unfold hAll at h
  split at h
  · split at h
    · rename_i ns e
      cases h
      have e' := asBools_eq e
      subst e'
      obtain ⟨v, rfl, ry⟩ := r.one
      obtain ⟨a, xs, rfl, qa, ra⟩ := ry.lst
      have := ra.bls
      subst this
      exact ⟨a, ns, rfl, SqL.of qa, p.here R (Rp.bl _)⟩
    · cases h
  · cases h
def hAny : List D → Option Rv
  | [.list ds] => match asBools ds with
    | some ns => some (.val (.bool (ns.any id)))
    | none => none
  | _ => none
theorem opn_any : OpN X (rAny X.K) hAny := by
  intro J σ fs H S xs ds rv Q R r h p
  unfold hAny at h
  split at h
  · split at h
    · rename_i ns e
      cases h
      have e' := asBools_eq e
      subst e'
      obtain ⟨v, rfl, ry⟩ := r.one
      obtain ⟨a, xs, rfl, qa, ra⟩ := ry.lst
      have := ra.bls
      subst this
      exact ⟨a, ns, rfl, SqL.of qa, p.here R (Rp.bl _)⟩
    · cases h
  · cases h
def hSum : List D → Option Rv
  | [.list ds] => match asInts ds with
    | some ns => some (.val (.int ns.sum))
    | none => none
  | _ => none
theorem opn_sum : OpN X (rSum X.K) hSum := by
  intro J σ fs H S xs ds rv Q R r h p
  unfold hSum at h
  split at h
  · split at h
    · rename_i ns e
      cases h
      have e' := asInts_eq e
      subst e'
      obtain ⟨v, rfl, ry⟩ := r.one
      obtain ⟨a, xs, rfl, qa, ra⟩ := ry.lst
      have := ra.ints
      subst this
      exact ⟨a, ns, rfl, SqL.of qa, p.here R (Rp.int _)⟩
    · cases h
  · cases h
/-! isinstance(x, T) -/
def tyN : D → String
  | .none => "NoneType"
  | .bool _ => "bool"
  | .int _ => "int"
  | .str _ => "str"
  | .list _ => "list"
  | .tuple _ => "tuple"
  | .dict _ => "dict"
def notScr : D → Bool
  | .dict (_ :: _) => false
  | _ => true
theorem RpB.ty {K : PySem.W.Frag} {S H : Hp} (sub : Same S H) {v : V} {d : D} (h : RpB K S H v d) (hd : notScr d = true) : TyX K H v (.type (tyN d)) := by
  cases d with
  | none => cases h.non; exact .base .non
  | bool b => cases h.bl; exact .base (.bl b)
  | int i => cases h.int; exact .base (.int i)
  | str x => cases h.str; exact .base (.str x)
  | list ds =>
    obtain ⟨a, xs, rfl, q, _⟩ := h.lst
    exact .base (.lst q)
  | tuple ds =>
    obtain ⟨a, xs, rfl, q, _, _⟩ := h.tup
    rcases Same.seqT sub q with (q | ⟨o, q⟩) | ⟨o, its, n, q, c, _⟩
    · exact .base (.tup q)
    · exact .fTuple q
    · exact .kTuple q c
  | dict ds =>
    cases ds with
    | nil =>
      rcases h with ⟨a, kvs, rfl, q, _⟩ | ⟨a, xs, es, rfl, e1, _⟩
      · exact .base (.dK q)
      · cases e1
    | cons p ds => cases hd
def hIsi (T : String) (d : D) : Option Rv := bif notScr d then (kitB (tyN d) T).map fun b => .val (.bool b) else none
theorem sim_isi {J : Inf} {W : WX} {t : TE} {f : M Rv} {T : String} (s : Sim X.K J X.mg W t (rV X.K) f) : Sim X.K J X.mg W (tCB (rIsi X.K) (fun σ H Q => t σ H fun v H1 => tC (.ty T) σ H1 fun u H2 => Q [v, u] H2)) (rV X.K) (fUn (hIsi T) f) := by
  intro σ H S fs Q res fs' R e p
  refine s.bind R e p fun rx fs1 x H1 S1 R1 r1 e1 p1 st1 sh1 => ?_
  unfold rd1 at e1
  split at e1
  · rename_i d q1
    split at e1
    · rename_i rv q3
      cases e1
      unfold hIsi at q3
      cases hs : notScr d with
      | false => rw [hs] at q3; cases q3
      | true =>
        rw [hs] at q3
        obtain ⟨b, hb, rfl⟩ := Option.map_eq_some_iff.mp (show (kitB (tyN d) T).map _ = some rv from q3)
        exact ⟨x, .ty T, _, _, b, rfl, .ty T, RpB.ty R1.sub (r1.rd R1 q1) hs, kit_ty hb, p1.here R1 (Rp.bl b)⟩
    · cases e1
  · cases e1
theorem fe_isi {J : Inf} {W : WX} {e : Expr} {f : M Rv} {x : Str} {T : String} {p p2 pos : Pos} (hg : Gl X "isinstance") (hm : X.mg "isinstance" = none) (hgx : Gl X x) (hmx : X.mg x = none) (hv : bootBuiltins x = some (.type T)) (he : FE X J W e f)
    (hn : x ≠ "__name__" := by decide) (hdb : (x == ("__debug__" : Str)) = false := by decide)
    (hs : starEach [e, .Name x p2] X.env = (false, eval e X.env) :: starEach [.Name x p2] X.env := by rfl) (hs2 : starEach [.Name x p2] X.env = (false, eval (.Name x p2) X.env) :: starEach [] X.env := by rfl) (hpl : (backTo pos (starEach [.Name x p2] X.env)).any (·.1) = false := by rfl) :
    FE X J W (.Call (.Name "isinstance" p) [e, .Name x p2] [] pos) (fUn (hIsi T) f) := by
  obtain ⟨t, pe, s⟩ := he
  have pT : PE X (.Name x p2) (tC (.ty T)) := pe_bltn hgx hmx hv rfl hn hdb
  exact ⟨_, pe_callB call_isi hg hm boot_isinstance (pa_cons pe (pa_cons pT pa_nil hs2) hs) (by decide) (by decide) hs hpl, sim_isi s⟩
/-! list(range(..)) -/
def rgL (a b : Int) : List D := (List.range (b - a).toNat).map fun i => PyData.int (a + (i : Nat))
theorem rps_rgV {K : PySem.W.Frag} {S : Hp} (a b : Int) : Rps K S (rgV a b) (rgL a b) := by
  unfold rgV rgL
  have : ∀ l : List Nat, Rps K S (l.map fun i => V.int (a + (i : Nat))) (l.map fun i => PyData.int (a + (i : Nat))) := fun l => by
    induction l with
    | nil => exact .nil
    | cons x l ih => exact .cons (.int _) ih
  exact this _
def rgOk (a b : Int) : Bool := smI a && smI b && decide ((b - a).toNat ≤ 16777216)
theorem rgOk_of {a b : Int} (h : rgOk a b = true) : RgOk a b := by
  unfold rgOk at h
  simp only [Bool.and_eq_true, decide_eq_true_eq] at h
  have h1 := smI_iff h.1.1
  have h2 := smI_iff h.1.2
  exact ⟨h1.1, h1.2, h2.1, h2.2, h.2⟩
def hLR1 : D → Option Rv
  | .int n => bif rgOk 0 n then some (.fresh (.list (rgL 0 n))) else none
  | _ => none
def hLR2 : D → D → Option Rv
  | .int m, .int n => bif rgOk m n then some (.fresh (.list (rgL m n))) else none
  | _, _ => none
variable {J : Inf} {W : WX} {e e2 : Expr} {f g : M Rv} {p p2 pos pos2 : Pos}
theorem fe_listR1 (hc : X.calm = true) (hg : Gl X "list") (hm : X.mg "list" = none) (hg2 : Gl X "range") (hm2 : X.mg "range" = none) (he : FE X J W e f) (na : starEach [e] X.env = (false, eval e X.env) :: starEach [] X.env := by rfl)
    (nb : starEach [.Call (.Name "range" p2) [e] [] pos2] X.env = (false, eval (.Call (.Name "range" p2) [e] [] pos2) X.env) :: starEach [] X.env := by rfl) : FE X J W (.Call (.Name "list" p) [.Call (.Name "range" p2) [e] [] pos2] [] pos) (fUn hLR1 f) := by
  obtain ⟨t, pe, s⟩ := he
  refine ⟨_, pe_listRg hc hg hm (prg_1 hg2 hm2 pe na) nb, fun σ H S fs Q res fs' R e p => ?_⟩
  refine s.bind R e p fun rx fs1 x H1 S1 R1 r1 e1 p1 st1 sh1 => ?_
  unfold rd1 at e1
  split at e1
  · rename_i d q1
    split at e1
    · rename_i rv q3
      cases e1
      unfold hLR1 at q3
      split at q3
      · rename_i n
        cases hr : rgOk 0 n with
        | false => rw [hr] at q3; cases q3
        | true =>
          rw [hr] at q3
          cases q3
          exact ⟨n, (r1.rd R1 q1).int, rgOk_of hr, fun l hl => p1.toV.newL R1 (rps_rgV 0 n) hl⟩
      · cases q3
    · cases e1
  · cases e1
theorem fe_listR2 (hc : X.calm = true) (hg : Gl X "list") (hm : X.mg "list" = none) (hg2 : Gl X "range") (hm2 : X.mg "range" = none) (he : FE X J W e f) (he2 : FE X J W e2 g) (na : starEach [e, e2] X.env = (false, eval e X.env) :: starEach [e2] X.env := by rfl) (na2 : starEach [e2] X.env = (false, eval e2 X.env) :: starEach [] X.env := by rfl)
    (hp : (backTo pos2 (starEach [e2] X.env)).any (·.1) = false := by rfl)
    (nb : starEach [.Call (.Name "range" p2) [e, e2] [] pos2] X.env = (false, eval (.Call (.Name "range" p2) [e, e2] [] pos2) X.env) :: starEach [] X.env := by rfl) : FE X J W (.Call (.Name "list" p) [.Call (.Name "range" p2) [e, e2] [] pos2] [] pos) (fBin hLR2 f g) := by
  obtain ⟨t, pe, s⟩ := he
  obtain ⟨t2, pe2, s2⟩ := he2
  refine ⟨_, pe_listRg hc hg hm (prg_2 hg2 hm2 pe pe2 na na2 hp) nb, fun σ H S fs Q res fs' R e p => ?_⟩
  refine s.bind R e p fun rx fs1 x H1 S1 R1 r1 e1 p1 st1 sh1 => ?_
  refine s2.bind R1 e1 p1 fun ry fs2 y H2 S2 R2 r2 e2 p2 st2 sh2 => ?_
  unfold rd2 at e2
  split at e2
  · rename_i d d' q1 q2
    split at e2
    · rename_i rv q3
      cases e2
      unfold hLR2 at q3
      split at q3
      · rename_i m n
        cases hr : rgOk m n with
        | false => rw [hr] at q3; cases q3
        | true =>
          rw [hr] at q3
          cases q3
          exact ⟨m, n, ((r1.later st2 sh2).rd R2 q1).int, (r2.rd R2 q2).int, rgOk_of hr, fun l hl => p2.toV.newL R2 (rps_rgV m n) hl⟩
      · cases q3
    · cases e2
  · cases e2
end
end Fx

namespace Fx
open PySem PySem.Spec PyProof.Rows L2
section
variable {K : PySem.W.Frag} {J : Inf} {σ : St} {H S : Hp} {fs : Fs}
/-- an own object is written -/
theorem Rel.upd {i n : Nat} {d d' : D} {p : Addr} {o : HO} (R : Rel K J σ H S fs) (h : fs[i]? = some (.own n d)) (hp : σ[i]? = some (some (.ref p))) (ho : OwnAt K S (upd H p o) p d') :
    Rel K J σ (L2.upd H p o) S (fs.set i (.own n d')) ∧ Stp (Wn σ fs) (Wz σ fs) H S (L2.upd H p o) S ∧ Shr fs (fs.set i (.own n d')) := by
  obtain ⟨p', q1, q2, q3, q4⟩ := R.own i n d h
  rw [hp] at q1
  cases q1
  obtain ⟨o0, e0⟩ := q2.live
  have hl : i < fs.length := (List.getElem?_eq_some_iff.mp h).1
  have st : Stp (Wn σ fs) (Wz σ fs) H S (L2.upd H p o) S := ⟨fun a u e nw => by
    by_cases ea : a = p
    · subst ea; exact absurd ⟨i, n, d, h, hp⟩ nw
    · rw [upd_ne ea]; exact e, Same.refl _, fun _ z => .inl z, fun a z => by
    by_cases ea : a = p
    · subst ea; rw [upd_same]; simp
    · rw [upd_ne ea]; exact z⟩
  have sh : Shr fs (fs.set i (.own n d')) := Shr.set fun m e z => by cases z; exact ⟨d, h⟩
  refine ⟨R.step st (fun a u e => ?_) (by rw [List.length_set]; exact R.len) (fun j e z => ?_) (fun j m e z => ?_) sh, st, sh⟩
  · rw [upd_ne (ne_of_none e q3)]; exact R.sub _ _ e
  · by_cases hj : i = j
    · subst hj
      rw [List.getElem?_set_self hl] at z
      cases z
    · rw [List.getElem?_set_ne hj] at z
      exact R.dat j e z
  · by_cases hj : i = j
    · subst hj
      rw [List.getElem?_set_self hl] at z
      cases z
      exact ⟨p, hp, ho, q3⟩
    · rw [List.getElem?_set_ne hj] at z
      obtain ⟨r, r1, r2, r3, _⟩ := R.own j m e z
      have ne : r ≠ p := fun w => hj (R.sep i j n m d e p h z hp (by rw [← w]; exact r1))
      exact ⟨r, r1, r2.mono (Same.refl _) fun u w => by rw [upd_ne ne]; exact w, r3⟩
end
section
variable {X : Cx} {J : Inf} {W : WX}
/-! ### methods of an own list -/
def OpM (X : Cx) (r : V → List V → Hp → VK → Prop) (hm : List D → List D → Option (D × List D)) : Prop :=
  ∀ (S H : Hp) (p : Addr) (xs : List V) (ds : List D) (vs : List V) (as : List D) (d : D) (ys : List D) (Q : VK), Same S H → H p = some (.lst xs) → Rps X.K S xs ds → Rps X.K S vs as → hm ds as = some (d, ys) →
    (∀ v us, Rp X.K S v d → Rps X.K S us ys → Q v (upd H p (.lst us))) → r (.ref p) vs H Q
def mtGo (i : Nat) (hm : List D → List D → Option (D × List D)) : List D → M Rv := fun as fs => match fs[i]? with
  | some (.own n (.list xs)) => match hm xs as with
    | some (d, ys) => some (.inr (.val d), fs.set i (.own n (.list ys)))
    | none => none
  | _ => none
/-- x.m(..), x an own list -/
def fMt (i : Nat) (hm : List D → List D → Option (D × List D)) (g : M (List D)) : M Rv := fun fs => match fs[i]? with
  | some (.own _ (.list _)) => bnd g (mtGo i hm) fs
  | _ => none
theorem mtGo_run {r : V → List V → Hp → VK → Prop} {hm : List D → List D → Option (D × List D)} (ho : OpM X r hm) {i : Nat} {σ : St} {fs fs' : Fs} {H S : Hp} {v : V} {vs : List V} {as : List D} {res : Cls ⊕ Rv} {Q : VK} (R : Rel X.K J σ H S fs) (hv : σ[i]? = some (some v)) (ra : Rps X.K S vs as)
    (e : mtGo i hm as fs = some (res, fs')) (p : PostE X.K J X.mg W (rV X.K) Q σ fs H S res fs') : tyV X.K "list" v H ∧ r v vs H Q := by
  unfold mtGo at e
  split at e
  · rename_i n xs q
    split at e
    · rename_i d ys q2
      cases e
      obtain ⟨a, h1, h2, h3, h4⟩ := R.own i n _ q
      rw [hv] at h1
      cases h1
      obtain ⟨us, e1, e2⟩ := h2
      refine ⟨.inl ⟨rfl, _, SqL.of e1⟩, ho S H a us xs vs as d ys Q R.sub e1 e2 ra q2 fun v us' rv ru => ?_⟩
      obtain ⟨R2, st2, sh2⟩ := R.upd (o := .lst us') (d' := .list ys) q hv ⟨us', upd_same, ru⟩
      exact p _ S R2 st2 sh2 v rv
    · cases e
  · cases e
theorem fe_mt {i : Nat} {x name : Str} {apos cpos pos : Pos} {e : Expr} {es : List Expr} {id : String} {r : V → List V → Hp → VK → Prop} {hm : List D → List D → Option (D × List D)} {g : M (List D)} (slot : Slot "list" name id) (hty : typeOf (.builtin id) = pure (.type "method_descriptor")) (hr : MtR X id r) (ho : OpM X r hm) (ha : FDs X J W (e :: es) g)
    (hN : X.N[i]? = some x := by rfl) (hv : Vis X.env.scope x := by first | exact Or.inl rfl | exact Or.inr (Or.inl rfl) | exact Or.inr (Or.inr rfl)) (hd : (x == ("__debug__" : Str)) = false := by decide) (hcd : (x == ("__classdict__" : Str)) = false := by decide)
    (hbase : attributeBase (.Name x pos) name X.env (eval (.Name x pos) X.env) = eval (.Name x pos) X.env := by rfl)
    (hfew : ((backTo cpos (starEach (e :: es) X.env)).all (fun x => !x.1) && (backToKw cpos (keywordEach [] X.env)).all (fun x => x.1.isSome)
      && decide ((e :: es).length + ([] : List Keyword).length + (if ([] : List Keyword).isEmpty then 0 else 1) < 30)) = true := by rfl)
    (hline : (apos.endLine == cpos.line) = true := by rfl) (hs : starEach (e :: es) X.env = (false, eval e X.env) :: starEach es X.env := by rfl) (hplain : (backTo cpos (starEach es X.env)).any (·.1) = false := by rfl) :
    FE X J W (.Call (.Attribute (.Name x pos) name apos) (e :: es) [] cpos) (fMt i hm g) := by
  obtain ⟨t, pa, s⟩ := ha
  refine ⟨_, pe_bm F.plainAttrs_list slot hty hr (pe_var hN hv hd hcd) pa hbase hfew hline hs hplain, fun σ H S fs Q res fs' R e p => ?_⟩
  unfold fMt at e
  split at e
  · rename_i n ds q
    obtain ⟨a, h1, h2, _⟩ := R.own i n _ q
    obtain ⟨xs, z, _⟩ := h2
    exact ⟨_, h1, .inl ⟨rfl, _, SqL.of z⟩, s.bind R e p fun as fs1 vs H1 S1 R1 r1 e1 p1 st1 sh1 => (mtGo_run ho R1 h1 r1 e1 p1).2⟩
  · cases e
theorem fe_mt0 {i : Nat} {x name : Str} {apos cpos pos : Pos} {id : String} {r : V → List V → Hp → VK → Prop} {hm : List D → List D → Option (D × List D)} (slot : Slot "list" name id) (hty : typeOf (.builtin id) = pure (.type "method_descriptor")) (hr : MtR X id r) (ho : OpM X r hm)
    (hN : X.N[i]? = some x := by rfl) (hv : Vis X.env.scope x := by first | exact Or.inl rfl | exact Or.inr (Or.inl rfl) | exact Or.inr (Or.inr rfl)) (hd : (x == ("__debug__" : Str)) = false := by decide) (hcd : (x == ("__classdict__" : Str)) = false := by decide)
    (hbase : attributeBase (.Name x pos) name X.env (eval (.Name x pos) X.env) = eval (.Name x pos) X.env := by rfl) (hline : (apos.endLine == cpos.line) = true := by rfl) :
    FE X J W (.Call (.Attribute (.Name x pos) name apos) [] [] cpos) (fMt i hm dNil) := by
  refine ⟨_, pe_bm0 F.plainAttrs_list slot hty hr (pe_var hN hv hd hcd) hbase hline, fun σ H S fs Q res fs' R e p => ?_⟩
  unfold fMt at e
  split at e
  · rename_i n ds q
    obtain ⟨a, h1, h2, _⟩ := R.own i n _ q
    exact ⟨_, h1, mtGo_run ho R h1 .nil e p⟩
  · cases e
def hApp : List D → List D → Option (D × List D) := fun xs as => match as with
  | [d] => if xs.length < sizeLine then some (.none, xs ++ [d]) else none
  | _ => none
theorem opm_append : OpM X rAppend hApp := by
  intro S H p xs ds vs as d ys Q sub hp rx rv h q
  unfold hApp at h
  split at h
  · split at h
    · rename_i hz
      cases h
      cases rv with
      | cons r1 r2 =>
        cases r2
        exact ⟨p, xs, _, rfl, rfl, hp, by rw [rx.length]; exact hz, q _ _ .non (rx.append (.cons r1 .nil))⟩
    · cases h
  · cases h
def hExt : List D → List D → Option (D × List D) := fun xs as => match as with
  | [.list ys] => if xs.length + ys.length ≤ sizeLine then some (.none, xs ++ ys) else none
  | _ => none
theorem opm_extend : OpM X rExtend hExt := by
  intro S H p xs ds vs as d ys Q sub hp rx rv h q
  unfold hExt at h
  split at h
  · split at h
    · rename_i hz
      cases h
      cases rv with
      | cons r1 r2 =>
        cases r2
        cases r1 with
        | lst e2 r2 => exact ⟨p, _, xs, _, rfl, rfl, hp, sub _ _ e2, by rw [rx.length, r2.length]; exact hz, q _ _ .non (rx.append r2)⟩
    · cases h
  · cases h
def hPop : List D → List D → Option (D × List D) := fun xs as => match as with
  | [] => match xs[xs.length - 1]? with
    | some d => some (d, xs.dropLast)
    | none => none
  | _ => none
theorem opm_pop : OpM X rPop hPop := by
  intro S H p xs ds vs as d ys Q sub hp rx rv h q
  unfold hPop at h
  split at h
  · split at h
    · rename_i e
      cases h
      cases rv
      obtain ⟨v, h1, h2⟩ := rx.get e
      rw [← rx.length] at h1
      exact ⟨p, xs, v, rfl, rfl, hp, h1, q _ _ h2 rx.dropLast⟩
    · cases h
  · cases h
def hPopAt : List D → List D → Option (D × List D) := fun xs as => match as with
  | [.int i] => bif smI i then match ixN xs.length i with
      | some k => match xs[k]? with
        | some d => some (d, xs.eraseIdx k)
        | none => none
      | none => none
    else none
  | _ => none
theorem opm_popAt : OpM X rPopAt hPopAt := by
  intro S H p xs ds vs as d ys Q sub hp rx rv h q
  unfold hPopAt at h
  split at h
  · rename_i i
    cases hz' : smI i with
    | true =>
      have hz := smI_iff hz'
      rw [hz', cond_true] at h
      split at h
      · rename_i k hk
        split at h
        · rename_i d e
          cases h
          cases rv with
          | cons r1 r2 =>
            cases r2
            cases r1
            obtain ⟨v, h1, h2⟩ := rx.get e
            exact ⟨p, xs, _, k, v, rfl, rfl, hp, by omega, by omega, by rw [rx.length]; exact (ixN_seq hk).1, h1, q _ _ h2 (rx.eraseIdx k)⟩
        · cases h
      · cases h
    | false => rw [hz'] at h; cases h
  · cases h
def hIns : List D → List D → Option (D × List D) := fun xs as => match as with
  | [.int i, d] => bif decide (xs.length < sizeLine) && decide (0 ≤ i) && smI i then some (.none, xs.take i.toNat ++ [d] ++ xs.drop i.toNat) else none
  | _ => none
theorem opm_insert : OpM X (fun x vs H Q => ∃ (l : Addr) (xs : List V) (i : Int) (y : V), x = .ref l ∧ vs = [.int i, y] ∧ H l = some (.lst xs) ∧ xs.length < sizeLine ∧ 0 ≤ i ∧ i < 2 ^ 63 ∧ Q .non (upd H l (.lst (xs.take i.toNat ++ [y] ++ xs.drop i.toNat)))) hIns := by
  intro S H p xs ds vs as d ys Q sub hp rx rv h q
  unfold hIns at h
  split at h
  · rename_i i d
    cases hz' : decide (ds.length < sizeLine) && decide (0 ≤ i) && smI i with
    | true =>
      rw [hz', cond_true] at h
      rw [Bool.and_eq_true, Bool.and_eq_true] at hz'
      have h2 := smI_iff hz'.2
      cases h
      cases rv with
      | cons r1 r2 =>
        cases r2 with
        | cons r2 r3 =>
          cases r3
          cases r1
          exact ⟨p, xs, _, _, rfl, rfl, hp, by rw [rx.length]; exact of_decide_eq_true hz'.1.1, of_decide_eq_true hz'.1.2, by omega, q _ _ .non (((rx.take _).append (.cons r2 .nil)).append (rx.drop _))⟩
    | false => rw [hz'] at h; cases h
  · cases h
/-! x[i] = v, x an own list -/
def sStore (i : Nat) (fv fi : M Rv) : SM := bndS (fD fv) fun d => bndS fi fun ix => fun fs => match ix.rd fs with
  | some (.int k) => match fs[i]? with
    | some (.own n (.list xs)) => match ixN xs.length k with
      | some j => some (.nx, fs.set i (.own n (.list (xs.set j d))))
      | none => none
    | _ => none
  | _ => none
def slOk (i : Nat) (g : SM) : SM := fun fs => match fs[i]? with
  | some (.own _ (.list _)) => g fs
  | _ => none
theorem fs_store {i : Nat} {x : Str} {e ei : Expr} {fv fi : M Rv} {pos p1 p2 : Pos} (he : FE X J W e fv) (hi : FE X J W ei fi)
    (hN : X.N[i]? = some x := by rfl) (hv : Vis X.env.scope x := by first | exact Or.inl rfl | exact Or.inr (Or.inl rfl) | exact Or.inr (Or.inr rfl)) (hd : (x == ("__debug__" : Str)) = false := by decide) (hcd : (x == ("__classdict__" : Str)) = false := by decide)
    (ha : ∀ v, assign (.Subscript (.Name x p1) ei p2) X.env v = (do
      let ov ← holding [v] (eval (.Name x p1) X.env)
      let iv ← holding [v, ov] (eval ei X.env)
      standAt p2
      holding [v, ov, iv] (setItem ov iv v)
      release [v, ov, iv] []) := by intro _; rfl)
    (hs : swapsWithSole [.Subscript (.Name x p1) ei p2] e pos.line X.env = pure false := by rfl) (hw : swappedStores [.Subscript (.Name x p1) ei p2] e X.env = pure none := by rfl)
    (h1 : (assignEach [.Subscript (.Name x p1) ei p2] X.env).map (·.2) = [assign (.Subscript (.Name x p1) ei p2) X.env] := by rfl) :
    FS X J W (.Assign [.Subscript (.Name x p1) ei p2] e pos) (slOk i (sStore i fv fi)) := by
  obtain ⟨t, pe, s⟩ := he
  obtain ⟨u, pi, s'⟩ := hi
  refine ⟨_, ps_asg pe (pg_sub (pe_var hN hv hd hcd) pi set_list ha) hs hw h1, fun σ H S fs D r fs' R e p => ?_⟩
  unfold slOk at e
  split at e
  · rename_i n0 ds0 q0
    obtain ⟨a, w1, w2, w3, _⟩ := R.own i n0 _ q0
    refine (s.fz).bindS R e p fun d fs1 v H1 S1 R1 r1 e1 p1 st1 sh1 => ?_
    refine ⟨_, w1, ?_⟩
    refine s'.bindS R1 e1 p1 fun ix fs2 y H2 S2 R2 r2 e2 p2 st2 sh2 => ?_
    try dsimp only at e2
    split at e2
    · rename_i k qk
      split at e2
      · rename_i n xs q
        split at e2
        · rename_i j hj
          cases e2
          obtain ⟨a', y1, y2, y3, _⟩ := R2.own i n _ q
          rw [w1] at y1
          cases y1
          obtain ⟨us, z1, z2⟩ := y2
          obtain ⟨R3, st3, sh3⟩ := R2.upd (o := .lst (us.set j v)) (d' := .list (xs.set j d)) q w1 ⟨us.set j v, upd_same, z2.set (r1.mono st2.grow) j⟩
          exact ⟨a, us, k, j, rfl, (r2.rd R2 qk).int, z1, by rw [z2.length]; exact hj, p2 _ _ S2 R3 (Same.refl _)⟩
        · cases e2
      · cases e2
    · cases e2
  · cases e
/-! xs.index(x) of a list or a plain tuple -/
def tyP (K : PySem.W.Frag) (x : V) (H : Hp) : Prop := ∃ p xs, x = .ref p ∧ SqT K H p xs ∧ Plain K H p
theorem tyP_is {pins : List (Addr × Obj)} {σ : St} {H : Hp} {s : Shared} {x : V} {v : Value} (I : Inv X pins σ H s) (r : RelV x v) (ty : tyP X.K x H) :
    s.TypeIs v "tuple" ∧ ∀ a, v = .ref a → ∃ ob, s.heap.get? a = some ob ∧ ob.dict = none := by
  obtain ⟨p, xs, rfl, hq, hp⟩ := ty
  cases r
  obtain ⟨its, _, ⟨o, h1, h2, _⟩, _⟩ := I.tuple hq
  refine ⟨⟨o, h1, h2⟩, fun a e => ?_⟩
  cases e
  rcases hp with ⟨o', u, e', hd⟩ | ⟨o', e', hd⟩
  · obtain ⟨h3, _⟩ := (show ObjOk X.prog X.w H s.heap p (.frz o' u) from I.hok p _ e')
    exact ⟨o', h3, hd⟩
  · exact ⟨o', I.kIn p o' e', hd⟩
def tBMT (K : PySem.W.Frag) (r : V → List V → Hp → VK → Prop) (to : TE) (t : TA) : TE := fun σ H Q => to σ H fun x H1 => tyP K x H1 ∧ t σ H1 fun xs H2 => r x xs H2 Q
theorem pe_bmT {o e : Expr} {es : List Expr} {to : TE} {t : TA} {name : Str} {apos cpos : Pos} {id : String} {r : V → List V → Hp → VK → Prop} (slot : Slot "tuple" name id) (hty : typeOf (.builtin id) = pure (.type "method_descriptor")) (hm : MtR X id r) (ho : PE X o to) (ha : PA X (e :: es) t)
    (hbase : attributeBase o name X.env (eval o X.env) = eval o X.env := by rfl)
    (hfew : ((backTo cpos (starEach (e :: es) X.env)).all (fun x => !x.1) && (backToKw cpos (keywordEach [] X.env)).all (fun x => x.1.isSome)
      && decide ((e :: es).length + ([] : List Keyword).length + (if ([] : List Keyword).isEmpty then 0 else 1) < 30)) = true := by rfl)
    (hline : (apos.endLine == cpos.line) = true := by rfl) (hs : starEach (e :: es) X.env = (false, eval e X.env) :: starEach es X.env := by rfl) (hplain : (backTo cpos (starEach es X.env)).any (·.1) = false := by rfl) :
    PE X (.Call (.Attribute o name apos) (e :: es) [] cpos) (tBMT X.K r to t) := by
  refine ⟨fun pins s σ H Q I h => ?_⟩
  refine wpAny_Call_method_late hbase hfew hline rfl (thn (ho.run pins s σ H _ I h) fun v s1 ⟨x, H1, I1, r1, ty, q1⟩ => ?_)
  obtain ⟨h1, h2⟩ := tyP_is I1 r1 ty
  refine ⟨"tuple", id, F.plainAttrs_tuple, slot, hty, h1, h2, ?_⟩
  have hA := ha.run cpos pins s1 σ H1 _ I1 q1
  rw [hs] at hA ⊢
  refine Calls.callWith_builtin (by show (false || (backTo cpos (starEach es X.env)).any (·.1)) = false; rw [hplain] <;> rfl) (Calls.evalArgs_plain ?_)
  exact thn hA fun us s2 ⟨vs, H2, I2, r2, q2⟩ => hm pins s2 σ H2 x vs v us Q I2 r1 r2 q2
def rIndexTD (K : PySem.W.Frag) : V → List V → Hp → VK → Prop := fun x xs H Q => ∃ (a : Addr) (y : V) (d : PyData) (ds : List PyData) (j : Nat) (z : PyData), x = V.ref a ∧ xs = [y] ∧ Dp K H (V.ref a) (.tuple ds) ∧ Dp K H y d ∧
  SeqAt.shaped (.tuple ds) = true ∧ SeqAt.shaped d = true ∧ ds[j]? = some z ∧ PyData.eqv z d = true ∧ (∀ (m : Nat) (z' : PyData), m < j → ds[m]? = some z' → PyData.eqv z' d = false) ∧ Q (.int (j : Nat)) H
theorem mt_indexTD (hu : X.A.units + 65 < cLine) : MtR X "tuple.index" (rIndexTD X.K) := by
  intro pins s σ H x xs v us Q I rx rxs h
  obtain ⟨a, y, d, ds, j, z, rfl, rfl, hl, hy, sl, sd, hz, hzj, hno, q⟩ := h
  cases rx
  cases rxs with
  | cons ry rt =>
    rename_i uy ut
    cases rt
    obtain ⟨bs, r1⟩ := Dp.reads I d y uy hy ry
    have hxs : PyData.canLayAll0 ds = true := SeqAt.canLay_of_shaped sl
    have hroom : X.A.units + 1 + min (PyData.depthAll ds) d.depth < cLine := room_in_shaped sd hu
    cases hl with
    | tup hs ha =>
      obtain ⟨its, rv, ⟨⟨cls, dd, data, sls⟩, ho, hc, n, hdt⟩, hlen⟩ := I.tuple hs
      simp only at hc hdt
      subst hc hdt
      obtain ⟨as, h4⟩ := Dp.readsAll I ds _ its ha rv
      have hn : its.length = ds.length := SeqAt.ReadsAll.length ds its as h4
      have hmap : its.map (SeqAt.readOf s.heap) = ds := SeqAt.readsAll_map ds its as hxs h4
      have hvl := rv.length
      have hsl := sizeLine_eq
      obtain ⟨hjd, _⟩ := List.getElem?_eq_some_iff.mp hz
      have hjl : j < its.length := by omega
      have hj : j < its.toArray.size := by simpa using hjl
      have at_ : ∀ (m : Nat) (hm : m < its.toArray.size) (z' : PyData), ds[m]? = some z' → SeqAt.readOf s.heap its.toArray[m] = z' := by
        intro m hm z' hz'
        have hml : m < its.length := by simpa using hm
        rw [← hmap, List.getElem?_map, List.getElem?_eq_getElem hml] at hz'
        have e1 : SeqAt.readOf s.heap its[m] = z' := Option.some.inj (show some (SeqAt.readOf s.heap its[m]) = some z' from hz')
        simpa using e1
      refine call_meets PySem.F.slot_tuple_index ⟨_, ho, rfl⟩ PySem.F.entry_tuple_index (PySem.F.args_tuple_index_2 _ _)
        (TI.tuple_indexAt a its.toArray n dd sls uy (fun u => PyData.eqv (SeqAt.readOf s.heap u) d) j hj ?_ ?_) ⟨ho, SeqAt.items_eqAt (vs := its.toArray) (show ReadsAll s.heap its.toArray.toList ds as from h4) r1 hxs (SeqAt.canLay_of_shaped sd) hroom, ?_⟩
      · show PyData.eqv (SeqAt.readOf s.heap its.toArray[j]) d = true
        rw [at_ j hj z hz]
        exact hzj
      · intro m hm hmj
        have hmd : m < ds.length := by omega
        have hz' : ds[m]? = some ds[m] := List.getElem?_eq_getElem hmd
        show PyData.eqv (SeqAt.readOf s.heap its.toArray[m]) d = false
        rw [at_ m hm _ hz']
        exact hno m _ hmj hz'
      · exact ⟨.int (j : Nat), H, I.tok _, ⟨_, rfl⟩, q⟩
/-- the first place of an equal item -/
def idxD (d : D) : List D → Option Nat
  | [] => none
  | z :: zs => bif PyData.eqv z d then some 0 else (idxD d zs).map (· + 1)
theorem idxD_of {d : D} : ∀ {ds : List D} {j : Nat}, idxD d ds = some j → ∃ z, ds[j]? = some z ∧ PyData.eqv z d = true ∧ ∀ (m : Nat) (z' : D), m < j → ds[m]? = some z' → PyData.eqv z' d = false
  | [], _, h => by cases h
  | z :: zs, j, h => by
    unfold idxD at h
    cases c : PyData.eqv z d with
    | true =>
      rw [c] at h
      cases h
      exact ⟨z, rfl, c, fun m z' hm => by omega⟩
    | false =>
      rw [c] at h
      obtain ⟨k, hk, rfl⟩ := Option.map_eq_some_iff.mp (show (idxD d zs).map (· + 1) = some j from h)
      obtain ⟨w, h1, h2, h3⟩ := idxD_of hk
      refine ⟨w, by simpa using h1, h2, fun m z' hm hz => ?_⟩
      cases m with
      | zero => cases (show some z = some z' from hz); exact c
      | succ m => exact h3 m z' (by omega) (by simpa using hz)
def hIndex (lst : Bool) (d e : D) : Option Rv := match d with
  | .list ds => bif lst && SeqAt.shaped (.list ds) && SeqAt.shaped e then (idxD e ds).map fun j => .val (.int (j : Nat)) else none
  | .tuple ds => bif !lst && SeqAt.shaped (.tuple ds) && SeqAt.shaped e then (idxD e ds).map fun j => .val (.int (j : Nat)) else none
  | _ => none
def isL : Rv → M Rv := fun r fs => match r.rd fs with
  | some (.list _) => some (.inr r, fs)
  | _ => none
def isT : Rv → M Rv := fun r fs => match r.rd fs with
  | some (.tuple _) => some (.inr r, fs)
  | _ => none
/-- o.index(e), o a list (of whatever owner) -/
def fIndexL (f g : M Rv) : M Rv := bnd f fun x => bnd (isL x) fun _ => bnd g fun y => rd2 (hIndex true) x y
def fIndexT (f g : M Rv) : M Rv := bnd f fun x => bnd (isT x) fun _ => bnd g fun y => rd2 (hIndex false) x y
theorem fe_indexL {o e : Expr} {f g : M Rv} {apos cpos : Pos} (hu : X.A.units + 65 < cLine) (hf : FE X J W o f) (hg : FE X J W e g) (hbase : attributeBase o "index" X.env (eval o X.env) = eval o X.env := by rfl)
    (hfew : ((backTo cpos (starEach [e] X.env)).all (fun x => !x.1) && (backToKw cpos (keywordEach [] X.env)).all (fun x => x.1.isSome)
      && decide (([e]).length + ([] : List Keyword).length + (if ([] : List Keyword).isEmpty then 0 else 1) < 30)) = true := by rfl)
    (hline : (apos.endLine == cpos.line) = true := by rfl) (hs : starEach [e] X.env = (false, eval e X.env) :: starEach [] X.env := by rfl) (hplain : (backTo cpos (starEach [] X.env)).any (·.1) = false := by rfl) :
    FE X J W (.Call (.Attribute o "index" apos) [e] [] cpos) (fIndexL f g) := by
  obtain ⟨t, pe, s⟩ := hf
  obtain ⟨t2, pe2, s2⟩ := hg
  refine ⟨_, pe_bm F.plainAttrs_list F.slot_list_index F.type_list_index (mt_indexD hu) pe (pa_cons pe2 pa_nil hs) hbase hfew hline hs hplain, fun σ H S fs Q res fs' R e p => ?_⟩
  refine s.bind R e p fun rx fs1 x H1 S1 R1 r1 e1 p1 st1 sh1 => ?_
  unfold bnd isL at e1
  cases q : rx.rd fs1 with
  | none => simp only [q] at e1; cases e1
  | some d =>
    cases d with
    | list ds =>
      simp only [q] at e1
      obtain ⟨a, xs, rfl, qa, ra⟩ := (r1.rd R1 q).lst
      refine ⟨.inl ⟨rfl, _, SqL.of qa⟩, ?_⟩
      have e1' : bnd g (fun y => rd2 (hIndex true) rx y) fs1 = some (res, fs') := e1
      refine s2.bind R1 e1' p1 fun ry fs2 y H2 S2 R2 r2 e2 p2 st2 sh2 => ?_
      unfold rd2 at e2
      split at e2
      · rename_i d d' q1 q2
        split at e2
        · rename_i rv q3
          cases e2
          have b1 := (r1.later st2 sh2).rd R2 q1
          have b2 := r2.rd R2 q2
          unfold hIndex at q3
          split at q3
          · rename_i ds'
            cases c : (true && SeqAt.shaped (.list ds') && SeqAt.shaped d') with
            | false => rw [c] at q3; cases q3
            | true =>
              rw [c] at q3
              obtain ⟨j, hj, rfl⟩ := Option.map_eq_some_iff.mp (show (idxD d' ds').map _ = some rv from q3)
              simp only [Bool.true_and, Bool.and_eq_true] at c
              obtain ⟨z, z1, z2, z3⟩ := idxD_of hj
              exact ⟨_, y, d', ds', j, z, rfl, rfl, b1.dp R2.sub c.1, b2.dp R2.sub c.2, c.1, c.2, z1, z2, z3, p2.here R2 (Rp.int _)⟩
          · rename_i ds'
            have : (!true && SeqAt.shaped (.tuple ds') && SeqAt.shaped d') = false := by simp
            rw [this] at q3; cases q3
          · cases q3
        · cases e2
      · cases e2
    | _ => simp only [q] at e1; cases e1
theorem fe_indexT {o e : Expr} {f g : M Rv} {apos cpos : Pos} (hu : X.A.units + 65 < cLine) (hf : FE X J W o f) (hg : FE X J W e g) (hbase : attributeBase o "index" X.env (eval o X.env) = eval o X.env := by rfl)
    (hfew : ((backTo cpos (starEach [e] X.env)).all (fun x => !x.1) && (backToKw cpos (keywordEach [] X.env)).all (fun x => x.1.isSome)
      && decide (([e]).length + ([] : List Keyword).length + (if ([] : List Keyword).isEmpty then 0 else 1) < 30)) = true := by rfl)
    (hline : (apos.endLine == cpos.line) = true := by rfl) (hs : starEach [e] X.env = (false, eval e X.env) :: starEach [] X.env := by rfl) (hplain : (backTo cpos (starEach [] X.env)).any (·.1) = false := by rfl) :
    FE X J W (.Call (.Attribute o "index" apos) [e] [] cpos) (fIndexT f g) := by
  obtain ⟨t, pe, s⟩ := hf
  obtain ⟨t2, pe2, s2⟩ := hg
  refine ⟨_, pe_bmT F.slot_tuple_index F.type_tuple_index (mt_indexTD hu) pe (pa_cons pe2 pa_nil hs) hbase hfew hline hs hplain, fun σ H S fs Q res fs' R e p => ?_⟩
  refine s.bind R e p fun rx fs1 x H1 S1 R1 r1 e1 p1 st1 sh1 => ?_
  unfold bnd isT at e1
  cases q : rx.rd fs1 with
  | none => simp only [q] at e1; cases e1
  | some d =>
    cases d with
    | tuple ds =>
      simp only [q] at e1
      obtain ⟨a, xs, rfl, qa, pa, ra⟩ := (r1.rd R1 q).tup
      refine ⟨⟨_, _, rfl, Same.seqT R1.sub qa, pa.mono R1.sub⟩, ?_⟩
      have e1' : bnd g (fun y => rd2 (hIndex false) rx y) fs1 = some (res, fs') := e1
      refine s2.bind R1 e1' p1 fun ry fs2 y H2 S2 R2 r2 e2 p2 st2 sh2 => ?_
      unfold rd2 at e2
      split at e2
      · rename_i d d' q1 q2
        split at e2
        · rename_i rv q3
          cases e2
          have b1 := (r1.later st2 sh2).rd R2 q1
          have b2 := r2.rd R2 q2
          unfold hIndex at q3
          split at q3
          · rename_i ds'
            have : (false && SeqAt.shaped (.list ds') && SeqAt.shaped d') = false := by simp
            rw [this] at q3; cases q3
          · rename_i ds'
            cases c : (!false && SeqAt.shaped (.tuple ds') && SeqAt.shaped d') with
            | false => rw [c] at q3; cases q3
            | true =>
              rw [c] at q3
              obtain ⟨j, hj, rfl⟩ := Option.map_eq_some_iff.mp (show (idxD d' ds').map _ = some rv from q3)
              simp only [Bool.not_false, Bool.true_and, Bool.and_eq_true] at c
              obtain ⟨z, z1, z2, z3⟩ := idxD_of hj
              exact ⟨_, y, d', ds', j, z, rfl, rfl, b1.dp R2.sub c.1, b2.dp R2.sub c.2, c.1, c.2, z1, z2, z3, p2.here R2 (Rp.int _)⟩
          · cases q3
        · cases e2
      · cases e2
    | _ => simp only [q] at e1; cases e1
/-! zip, enumerate -/
def zipD : List D → List D → List D
  | a :: as, b :: bs => .tuple [a, b] :: zipD as bs
  | _, _ => []
theorem zipD_length : ∀ as bs : List D, (zipD as bs).length = min as.length bs.length
  | [], _ => by simp [zipD]
  | _ :: _, [] => by simp [zipD]
  | _ :: as, _ :: bs => by simp [zipD, zipD_length as bs]
theorem zipD_get : ∀ {as bs : List D} {i : Nat} {a b : D}, as[i]? = some a → bs[i]? = some b → (zipD as bs)[i]? = some (.tuple [a, b])
  | [], _, _, _, _, h, _ => by simp at h
  | _ :: _, [], _, _, _, _, h => by simp at h
  | _ :: as, _ :: bs, 0, a, b, h1, h2 => by simp at h1 h2; subst h1 h2; rfl
  | _ :: as, _ :: bs, i + 1, a, b, h1, h2 => by
    have := zipD_get (as := as) (bs := bs) (i := i) (a := a) (b := b) (by simpa using h1) (by simpa using h2)
    simpa [zipD] using this
theorem rpk_pair {K : PySem.W.Frag} {S H : Hp} {x y : V} {a b : D} {T : Addr} (sub : Same S H) (hT : H T = none) (r1 : Rp K S x a) (r2 : Rp K S y b) : RpK false K (upd S T (.tup [x, y])) (.ref T) (.tuple [a, b]) := by
  have g : Same S (upd S T (.tup [x, y])) := fun c u e => by rw [upd_ne (ne_of_none (sub _ _ e) hT)]; exact e
  exact ⟨T, [x, y], [a, b], rfl, rfl, .inl (.inl upd_same), .cons (r1.mono g) (.cons (r2.mono g) .nil)⟩
theorem it_zip {K : PySem.W.Frag} {S : Hp} {a b : Addr} {xs ys : List V} {ds es : List D} (h : SqL K S a xs) (r : Rps K S xs ds) (h2 : SqL K S b ys) (r2 : Rps K S ys es) : ItOk false K S (Itz K a b) (zipD ds es) where
  go := fun i H S' hi s1 s2 => by
    rw [zipD_length] at hi
    have l1 := r.length
    have l2 := r2.length
    exact ⟨xs, ys, xs[i]'(by omega), ys[i]'(by omega), L2.Same.seq (s1.trans s2) h, L2.Same.seq (s1.trans s2) h2, by simp, by simp⟩
  yld := fun i H S' x H' hi s1 s2 y => by
    obtain ⟨T, u, w, rfl, hT, rfl, q1, q2⟩ := y
    obtain ⟨d, h3, h4⟩ := r.get' (q1 xs (L2.Same.seq (s1.trans s2) h))
    obtain ⟨e, h5, h6⟩ := r2.get' (q2 ys (L2.Same.seq (s1.trans s2) h2))
    exact ⟨_, _, zipD_get h3 h5, stp_newS (o := .tup [u, w]) hT s2, same_newS hT s2, rpk_pair s2 hT (h4.mono s1) (h6.mono s1)⟩
  stop := fun H S' s1 s2 => by
    refine ⟨xs, ys, L2.Same.seq (s1.trans s2) h, L2.Same.seq (s1.trans s2) h2, ?_⟩
    rw [zipD_length, r.length, r2.length]
    omega
theorem it_zipT {K : PySem.W.Frag} {S : Hp} {a b : Addr} {xs ys : List V} {ds es : List D} (h : SqT K S a xs) (r : Rps K S xs ds) (h2 : SqT K S b ys) (r2 : Rps K S ys es) : ItOk false K S (RZ.ItzT K a b) (zipD ds es) where
  go := fun i H S' hi s1 s2 => by
    rw [zipD_length] at hi
    have l1 := r.length
    have l2 := r2.length
    exact ⟨xs, ys, xs[i]'(by omega), ys[i]'(by omega), Same.seqT (s1.trans s2) h, Same.seqT (s1.trans s2) h2, by simp, by simp⟩
  yld := fun i H S' x H' hi s1 s2 y => by
    obtain ⟨T, u, w, rfl, hT, rfl, q1, q2⟩ := y
    obtain ⟨d, h3, h4⟩ := r.get' (q1 xs (Same.seqT (s1.trans s2) h))
    obtain ⟨e, h5, h6⟩ := r2.get' (q2 ys (Same.seqT (s1.trans s2) h2))
    exact ⟨_, _, zipD_get h3 h5, stp_newS (o := .tup [u, w]) hT s2, same_newS hT s2, rpk_pair s2 hT (h4.mono s1) (h6.mono s1)⟩
  stop := fun H S' s1 s2 => by
    refine ⟨xs, ys, Same.seqT (s1.trans s2) h, Same.seqT (s1.trans s2) h2, ?_⟩
    rw [zipD_length, r.length, r2.length]
    omega
def fiZip (f : M (List D)) : M (List D) := bnd f fun ds fs => match ds with
  | [.list a, .list b] => some (.inr (zipD a b), fs)
  | [.tuple a, .tuple b] => some (.inr (zipD a b), fs)
  | _ => none
theorem fi_zip {e e2 : Expr} {gs : M (List D)} {elts : List Expr} {kk : Nat} {tpos p pos : Pos} (hg : Gl X "zip") (hm : X.mg "zip" = none) (ha : FDs X J W [e, e2] gs)
    (hs : starEach [e, e2] X.env = (false, eval e X.env) :: starEach [e2] X.env := by rfl) (hpl : (backTo pos (starEach [e2] X.env)).any (·.1) = false := by rfl) :
    FI X J W false (.Tuple elts kk tpos) (.Call (.Name "zip" p) [e, e2] [] pos) (fiZip gs) := by
  obtain ⟨t, pa, s⟩ := ha
  refine ⟨_, RZ.pi_zipA hg hm pa hs hpl, fun σ H S fs Q res fs' R e p => ?_⟩
  refine s.bind R e p fun ds fs1 vs H1 S1 R1 r1 e1 p1 _ _ => ?_
  try dsimp only at e1
  split at e1
  · cases e1
    cases r1 with
    | cons q1 r1 =>
      cases r1 with
      | cons q2 r1 =>
        cases r1
        cases q1 with
        | lst z1 z2 =>
          cases q2 with
          | lst z3 z4 => exact ⟨_, _, _, _, rfl, .inl ⟨SqL.of (R1.sub _ _ z1), SqL.of (R1.sub _ _ z3), p1.here R1 (it_zip (SqL.of z1) z2 (SqL.of z3) z4)⟩⟩
  · cases e1
    cases r1 with
    | cons q1 r1 =>
      cases r1 with
      | cons q2 r1 =>
        cases r1
        cases q1 with
        | tup z1 _ z2 =>
          cases q2 with
          | tup z3 _ z4 => exact ⟨_, _, _, _, rfl, .inr ⟨Same.seqT R1.sub z1, Same.seqT R1.sub z3, p1.here R1 (it_zipT z1 z2 z3 z4)⟩⟩
  · cases e1
def enumD : Nat → List D → List D
  | _, [] => []
  | k, d :: ds => .tuple [.int (k : Nat), d] :: enumD (k + 1) ds
theorem enumD_length : ∀ (k : Nat) (ds : List D), (enumD k ds).length = ds.length
  | _, [] => rfl
  | k, d :: ds => by simp [enumD, enumD_length (k + 1) ds]
theorem enumD_get : ∀ {k : Nat} {ds : List D} {i : Nat} {d : D}, ds[i]? = some d → (enumD k ds)[i]? = some (.tuple [.int ((k + i : Nat)), d])
  | _, [], _, _, h => by simp at h
  | k, _ :: ds, 0, d, h => by simp at h; subst h; rfl
  | k, _ :: ds, i + 1, d, h => by
    have := enumD_get (k := k + 1) (ds := ds) (i := i) (d := d) (by simpa using h)
    have e : k + 1 + i = k + (i + 1) := by omega
    rw [e] at this
    simpa [enumD] using this
theorem it_enum {K : PySem.W.Frag} {S : Hp} {a : Addr} {xs : List V} {ds : List D} (h : SqL K S a xs) (r : Rps K S xs ds) : ItOk false K S (Ite K a) (enumD 0 ds) where
  go := fun i H S' hi s1 s2 => by
    rw [enumD_length] at hi
    exact ⟨xs, xs[i]'(by rw [r.length]; exact hi), L2.Same.seq (s1.trans s2) h, by simp⟩
  yld := fun i H S' x H' hi s1 s2 y => by
    obtain ⟨T, u, rfl, hT, rfl, q1⟩ := y
    obtain ⟨d, h3, h4⟩ := r.get' (q1 xs (L2.Same.seq (s1.trans s2) h))
    refine ⟨_, _, enumD_get h3, stp_newS (o := .tup [.int (i : Nat), u]) hT s2, same_newS hT s2, ?_⟩
    rw [Nat.zero_add]
    exact rpk_pair s2 hT (Rp.int _) (h4.mono s1)
  stop := fun H S' s1 s2 => by
    refine ⟨xs, L2.Same.seq (s1.trans s2) h, ?_⟩
    rw [enumD_length, r.length]
    exact Nat.le_refl _
def fiEnum (f : M (List D)) : M (List D) := bnd f fun ds fs => match ds with
  | [.list a] => some (.inr (enumD 0 a), fs)
  | _ => none
theorem fi_enum {e : Expr} {gs : M (List D)} {elts : List Expr} {kk : Nat} {tpos p pos : Pos} (hg : Gl X "enumerate") (hm : X.mg "enumerate" = none) (ha : FDs X J W [e] gs)
    (hs : starEach [e] X.env = [(false, eval e X.env)] := by rfl) :
    FI X J W false (.Tuple elts kk tpos) (.Call (.Name "enumerate" p) [e] [] pos) (fiEnum gs) := by
  obtain ⟨t, pa, s⟩ := ha
  refine ⟨_, pi_enum hg hm pa hs, fun σ H S fs Q res fs' R e p => ?_⟩
  refine s.bind R e p fun ds fs1 vs H1 S1 R1 r1 e1 p1 _ _ => ?_
  try dsimp only at e1
  split at e1
  · cases e1
    cases r1 with
    | cons q1 r1 =>
      cases r1
      cases q1 with
      | lst z1 z2 => exact ⟨_, _, rfl, SqL.of (R1.sub _ _ z1), p1.here R1 (it_enum (SqL.of z1) z2)⟩
  · cases e1
end
end Fx

namespace Fx
open PySem PySem.Spec PyProof.Rows L2
section
variable {X : Cx} {J : Inf} {W : WX} {e tg : Expr} {st : Bool}
/-! ### one rule or another, as the values are -/
theorem FE.or {f f1 f2 : M Rv} (h1 : FE X J W e f1) (h2 : FE X J W e f2) (h : ∀ fs r, f fs = some r → f1 fs = some r ∨ f2 fs = some r) : FE X J W e f := by
  obtain ⟨t1, p1, s1⟩ := h1
  obtain ⟨t2, p2, s2⟩ := h2
  refine ⟨fun σ H Q => t1 σ H Q ∨ t2 σ H Q, ⟨fun pins s σ H Q I q => q.elim (fun q => p1.run pins s σ H Q I q) fun q => p2.run pins s σ H Q I q⟩, fun σ H S fs Q res fs' R e p => ?_⟩
  rcases h fs _ e with e | e
  · exact .inl (s1 σ H S fs Q res fs' R e p)
  · exact .inr (s2 σ H S fs Q res fs' R e p)
theorem FI.or {f f1 f2 : M (List D)} (h1 : FI X J W st tg e f1) (h2 : FI X J W st tg e f2) (h : ∀ fs r, f fs = some r → f1 fs = some r ∨ f2 fs = some r) : FI X J W st tg e f := by
  obtain ⟨t1, p1, s1⟩ := h1
  obtain ⟨t2, p2, s2⟩ := h2
  refine ⟨fun σ H Q => t1 σ H Q ∨ t2 σ H Q, ⟨fun pins s σ H Q I q => q.elim (fun q => p1.run pins s σ H Q I q) fun q => p2.run pins s σ H Q I q⟩, fun σ H S fs Q res fs' R e p => ?_⟩
  rcases h fs _ e with e | e
  · exact .inl (s1 σ H S fs Q res fs' R e p)
  · exact .inr (s2 σ H S fs Q res fs' R e p)
def asS : D → M (List D) := fun d fs => match d with
  | .list ds => some (.inr ds, fs)
  | .tuple ds => some (.inr ds, fs)
  | _ => none
def fiS (f : M D) : M (List D) := bnd f asS
theorem fi_seq {f : M Rv} (he : FE X J W e f) : FI X J W true tg e (fiS (fD f)) := (fi_list he).or (fi_tup he) fun fs r q => by
  unfold fiS bnd at q
  unfold fiL fiT bnd
  split at q
  · cases q
  · rename_i c fs1 q1
    left
    exact q
  · rename_i d fs1 q1
    cases d with
    | list ds => exact .inl q
    | tuple ds => exact .inr q
    | _ => cases q
def fIndex (f g : M Rv) : M Rv := fun fs => match fIndexL f g fs with
  | some r => some r
  | none => fIndexT f g fs
theorem fe_index {o e : Expr} {f g : M Rv} {apos cpos : Pos} (hu : X.A.units + 65 < cLine) (hf : FE X J W o f) (hg : FE X J W e g) (hbase : attributeBase o "index" X.env (eval o X.env) = eval o X.env := by rfl)
    (hfew : ((backTo cpos (starEach [e] X.env)).all (fun x => !x.1) && (backToKw cpos (keywordEach [] X.env)).all (fun x => x.1.isSome)
      && decide (([e]).length + ([] : List Keyword).length + (if ([] : List Keyword).isEmpty then 0 else 1) < 30)) = true := by rfl)
    (hline : (apos.endLine == cpos.line) = true := by rfl) (hs : starEach [e] X.env = (false, eval e X.env) :: starEach [] X.env := by rfl) (hplain : (backTo cpos (starEach [] X.env)).any (·.1) = false := by rfl) :
    FE X J W (.Call (.Attribute o "index" apos) [e] [] cpos) (fIndex f g) := (fe_indexL hu hf hg hbase hfew hline hs hplain).or (fe_indexT hu hf hg hbase hfew hline hs hplain) fun fs r q => by
  unfold fIndex at q
  split at q
  · rename_i r' q1
    cases q
    exact .inl q1
  · exact .inr q
end
theorem Room.u65 {k : Nat} {A : Around} (r : Room k A) : A.units + 65 < cLine := by have := r.un; omega
/-! ### the defs of the text -/
/-- a def's facts -/
structure Gd (K : PySem.W.Frag) (mg : Str → Option Value) (x : Str) (st : Stmt) (ps : List Str) where
  f : Addr
  fd : FuncData
  fn : Fun K x x st f fd
  b : Binds K fd ps []
  m : mg x = some (.ref f)
section
variable {P : Program} {w : World} {K : PySem.W.Frag} {mg : Str → Option Value} {base : Heap}
/-- the law, of a script -/
def spScr (K : PySem.W.Frag) (G : Fn) : Sp := fun vs H Q _ => ∃ (a : Addr) (ns : List Int), vs = [.ref a] ∧ SqL K H a (ns.map V.int) ∧ G [.dat (.dict [(.none, .list (ns.map PyData.int))])] = some (.inr (false, .bool true), [.no]) ∧ ∀ H', Q (.bl true) H'
theorem FnS.law {k : Nat} {f : Addr} {fd : FuncData} {x : Str} {G : Fn} (F : FnS P w K mg base k f fd [x] G) : FnOk P w K mg base (L2.CX P w) k f fd [x] (spScr K G) := F.imp fun vs H Q E h => by
  obtain ⟨a, ns, rfl, hS, e, q⟩ := h
  refine ⟨H, _, _, _, Same.refl _, ⟨rfl, fun i d z => ?_, fun i n d z => ?_, fun i j n m d e p z => ?_⟩, e, fun H' S' sub st o => ?_⟩
  · cases i with
    | zero => cases z; exact ⟨_, rfl, .scr hS (Rps.of_ints ns)⟩
    | succ i => simp at z
  · cases i with
    | zero => cases z
    | succ i => simp at z
  · cases i with
    | zero => cases z
    | succ i => simp at z
  · intro v r
    cases (show Rp K S' v (.bool true) from r)
    exact q H'
end
abbrev scrD (ns : List Int) : List Sl := [.dat (.dict [(.none, .list (ns.map PyData.int))])]
/-- the head -/
theorem law_head {l : PySem.W.OpenLaw} {n k : Nat} {q : Program} {loose : List Str} {XP : (Str → Option Value) → Heap → Prop} {YP : World → Heap → Prop} {d : DefRec} {K : Params → PySem.W.Frag} {x : Str} (G : Fn)
    (hn : l.most = some n) (hn2 : n ≤ sizeLine) (hdf : d.params.defaults = []) (hr : Room k callerA)
    (hY : ∀ (w : World) (h : Heap), YP w h → (K w.params).In h)
    (F : ∀ (w : World) (mg : Str → Option Value) (fa : Addr) (h : Heap), (K w.params).In h → h.Ns mainGlobals mg → mg d.name = some (.ref fa) →
      ∃ fd : FuncData, (∀ (s : Shared) (u : Value), BindsTo s fd ⟨[u], []⟩ [(x, u)]) ∧ ∀ base : Heap, FnS l.prog w (K w.params) mg base k fa fd [x] G)
    (hG : ∀ ns : List Int, ns.length ≤ n → (∀ z ∈ ns, Builtin.Int.intBits z ≤ 1048576) → G (scrD ns) = some (.inr (false, .bool true), [.no])) :
    PySem.W.WalkO q loose XP YP l.row.toRowW d [] (fun f vs => PySem.call f vs) := by
  refine L2.walk_ofB (x := x) (CX := fun w => L2.CX l.prog w) (sp := fun w => spScr (K w.params) G) hn hn2 hdf hr hY (fun w mg fa h KX hm ha => ?_) (fun w H a ns hl hb _ hS => ⟨a, ns, rfl, hS, hG ns hl hb, fun _ => rfl⟩) fun w H s e s' h => ?_
  · obtain ⟨fd, h1, h2⟩ := F w mg fa h KX hm ha
    exact ⟨fd, h1, fun base _ _ => (h2 base).law⟩
  · obtain ⟨_, _, _, _, _, _, _, _, _, _, _, _, z⟩ := h
    exact z
end Fx

namespace Fx
open PySem PySem.Spec PyProof.Rows L2
/-! ### reading by equations -/
theorem atI_n0 {α : Type} (x : α) (xs : List α) : atI (x :: xs) 0 = some x := by
  unfold atI ixN
  rw [if_pos (Int.le_refl 0), if_pos (by rw [List.length_cons]; omega)]
  rfl
theorem atI_n1 {α : Type} (x y : α) (xs : List α) : atI (x :: y :: xs) 1 = some y := by
  unfold atI ixN
  rw [if_pos (by omega), if_pos (by rw [List.length_cons, List.length_cons]; omega)]
  rfl
theorem atI_n2 {α : Type} (x y z : α) (xs : List α) : atI (x :: y :: z :: xs) 2 = some z := by
  unfold atI ixN
  rw [if_pos (by omega), if_pos (by simp only [List.length_cons]; omega)]
  rfl
theorem atI_n3 {α : Type} (x y z u : α) (xs : List α) : atI (x :: y :: z :: u :: xs) 3 = some u := by
  unfold atI ixN
  rw [if_pos (by omega), if_pos (by simp only [List.length_cons]; omega)]
  rfl
theorem atI_natE {α : Type} (xs : List α) (j : Nat) : atI xs (j : Int) = xs[j]? := by
  unfold atI ixN
  rw [if_pos (Int.natCast_nonneg j)]
  by_cases h : j < xs.length
  · rw [if_pos (by omega)]
    rfl
  · rw [if_neg (by omega), List.getElem?_eq_none (by omega)]
    rfl
theorem ixN_natE (n j : Nat) : ixN n (j : Int) = if j < n then some j else none := by
  unfold ixN
  rw [if_pos (Int.natCast_nonneg j)]
  by_cases h : j < n
  · rw [if_pos (by omega), if_pos h]
    rfl
  · rw [if_neg (by omega), if_neg h]
theorem ixN_n0 (n : Nat) : ixN (n + 1) 0 = some 0 := by
  unfold ixN
  rw [if_pos (by omega), if_pos (by omega)]
  rfl
theorem ixN_10 : ixN 1 0 = some 0 := rfl
theorem ixN_20 : ixN 2 0 = some 0 := rfl
theorem ixN_21 : ixN 2 1 = some 1 := rfl
theorem szl (n : Nat) (h : n ≤ 16777216) : n ≤ sizeLine := by rw [sizeLine_eq]; exact h
theorem sz0 : (0 ≤ sizeLine) = True := eq_true (szl 0 (by decide))
theorem sz1 : (1 ≤ sizeLine) = True := eq_true (szl 1 (by decide))
theorem sz2 : (2 ≤ sizeLine) = True := eq_true (szl 2 (by decide))
theorem sz3 : (3 ≤ sizeLine) = True := eq_true (szl 3 (by decide))
theorem sz4 : (4 ≤ sizeLine) = True := eq_true (szl 4 (by decide))
theorem sz5 : (5 ≤ sizeLine) = True := eq_true (szl 5 (by decide))
theorem sz6 : (6 ≤ sizeLine) = True := eq_true (szl 6 (by decide))
theorem sz7 : (7 ≤ sizeLine) = True := eq_true (szl 7 (by decide))
theorem sz8 : (8 ≤ sizeLine) = True := eq_true (szl 8 (by decide))
/-- a statement that goes on -/
theorem sCons_nx {g h : SM} {fs fs1 : Fs} (e : g fs = some (.nx, fs1)) : sCons g h fs = h fs1 := by unfold sCons; rw [e]
theorem sCons_ret {g h : SM} {fs fs1 : Fs} {fr : Bool} {d : D} (e : g fs = some (.ret fr d, fs1)) : sCons g h fs = some (.ret fr d, fs1) := by unfold sCons; rw [e]
theorem sCons_ex {g h : SM} {fs fs1 : Fs} {c : Cls} (e : g fs = some (.ex c, fs1)) : sCons g h fs = some (.ex c, fs1) := by unfold sCons; rw [e]
theorem sCons_ct {g h : SM} {fs fs1 : Fs} (e : g fs = some (.ct, fs1)) : sCons g h fs = some (.ct, fs1) := by unfold sCons; rw [e]
theorem sCons_bk {g h : SM} {fs fs1 : Fs} (e : g fs = some (.bk, fs1)) : sCons g h fs = some (.bk, fs1) := by unfold sCons; rw [e]
theorem mkFn_ret {k N : Nat} {g : SM} {as : List Sl} {fs : Fs} {fr : Bool} {d : D} (hl : as.length = k) (e : g (as ++ List.replicate (N - k) .no) = some (.ret fr d, fs)) : mkFn k N g as = some (.inr (fr, d), outs k 0 fs) := by
  unfold mkFn; rw [if_pos hl, e]
theorem mkFn_nx {k N : Nat} {g : SM} {as : List Sl} {fs : Fs} (hl : as.length = k) (e : g (as ++ List.replicate (N - k) .no) = some (.nx, fs)) : mkFn k N g as = some (.inr (false, .none), outs k 0 fs) := by
  unfold mkFn; rw [if_pos hl, e]
theorem mkFn_ex {k N : Nat} {g : SM} {as : List Sl} {fs : Fs} {c : Cls} (hl : as.length = k) (e : g (as ++ List.replicate (N - k) .no) = some (.ex c, fs)) : mkFn k N g as = some (.inl c, outs k 0 fs) := by
  unfold mkFn; rw [if_pos hl, e]
theorem bnd_inr {α β : Type} {f : M α} {g : α → M β} {fs fs1 : Fs} {a : α} (e : f fs = some (.inr a, fs1)) : bnd f g fs = g a fs1 := by unfold bnd; rw [e]
theorem bndS_inr {α : Type} {f : M α} {g : α → SM} {fs fs1 : Fs} {a : α} (e : f fs = some (.inr a, fs1)) : bndS f g fs = g a fs1 := by unfold bndS; rw [e]
/-! loops -/
theorem sWhile_stop {c : M Bool} {b : SM} {fs fs1 : Fs} (h : c fs = some (.inr false, fs1)) : sWhile c b fs = some (.nx, fs1) := by
  rw [sWhile_eq]; unfold wStep; rw [h]
theorem sWhile_turn {c : M Bool} {b : SM} {fs fs1 fs2 : Fs} (h : c fs = some (.inr true, fs1)) (h2 : b fs1 = some (.nx, fs2)) : sWhile c b fs = sWhile c b fs2 := by
  rw [sWhile_eq]; unfold wStep; rw [h]; dsimp only; rw [h2]
theorem sWhile_ret {c : M Bool} {b : SM} {fs fs1 fs2 : Fs} {fr : Bool} {d : D} (h : c fs = some (.inr true, fs1)) (h2 : b fs1 = some (.ret fr d, fs2)) : sWhile c b fs = some (.ret fr d, fs2) := by
  rw [sWhile_eq]; unfold wStep; rw [h]; dsimp only; rw [h2]
theorem sWhile_brk {c : M Bool} {b : SM} {fs fs1 fs2 : Fs} (h : c fs = some (.inr true, fs1)) (h2 : b fs1 = some (.bk, fs2)) : sWhile c b fs = some (.nx, fs2) := by
  rw [sWhile_eq]; unfold wStep; rw [h]; dsimp only; rw [h2]
theorem forL_nx {g : D → Fs → Option Fs} {b : SM} {d : D} {ds : List D} {fs fs1 fs2 : Fs} (h : g d fs = some fs1) (h2 : b fs1 = some (.nx, fs2)) : forL g b (d :: ds) fs = forL g b ds fs2 := by
  show (match g d fs with | none => none | some fs1 => _) = _
  rw [h]; dsimp only; rw [h2]
theorem forL_ct {g : D → Fs → Option Fs} {b : SM} {d : D} {ds : List D} {fs fs1 fs2 : Fs} (h : g d fs = some fs1) (h2 : b fs1 = some (.ct, fs2)) : forL g b (d :: ds) fs = forL g b ds fs2 := by
  show (match g d fs with | none => none | some fs1 => _) = _
  rw [h]; dsimp only; rw [h2]
theorem forL_ret {g : D → Fs → Option Fs} {b : SM} {d : D} {ds : List D} {fs fs1 fs2 : Fs} {fr : Bool} {x : D} (h : g d fs = some fs1) (h2 : b fs1 = some (.ret fr x, fs2)) : forL g b (d :: ds) fs = some (.ret fr x, fs2) := by
  show (match g d fs with | none => none | some fs1 => _) = _
  rw [h]; dsimp only; rw [h2]
theorem forL_bk {g : D → Fs → Option Fs} {b : SM} {d : D} {ds : List D} {fs fs1 fs2 : Fs} (h : g d fs = some fs1) (h2 : b fs1 = some (.bk, fs2)) : forL g b (d :: ds) fs = some (.nx, fs2) := by
  show (match g d fs with | none => none | some fs1 => _) = _
  rw [h]; dsimp only; rw [h2]
theorem forL_nil {g : D → Fs → Option Fs} {b : SM} {fs : Fs} : forL g b [] fs = some (.nx, fs) := rfl
theorem sFor_of {f : M (List D)} {g : D → Fs → Option Fs} {b : SM} {fs fs1 : Fs} {ds : List D} (e : f fs = some (.inr ds, fs1)) : sFor f g b fs = forL g b ds fs1 := bndS_inr e
theorem sIf_t {c : M Bool} {g h : SM} {fs fs1 : Fs} (e : c fs = some (.inr true, fs1)) : sIf c g h fs = g fs1 := bndS_inr e
theorem sIf_f {c : M Bool} {g h : SM} {fs fs1 : Fs} (e : c fs = some (.inr false, fs1)) : sIf c g h fs = h fs1 := bndS_inr e
theorem forL_ind {g : D → Fs → Option Fs} {b : SM} (I : Nat → Fs → Prop) : ∀ (ds : List D) (k : Nat) (fs : Fs), I k fs → (∀ (i : Nat) (d : D) (fs : Fs), ds[i]? = some d → I (k + i) fs → ∃ fs1 fs2, g d fs = some fs1 ∧ (b fs1 = some (.nx, fs2) ∨ b fs1 = some (.ct, fs2)) ∧ I (k + i + 1) fs2) →
    ∃ fs', forL g b ds fs = some (.nx, fs') ∧ I (k + ds.length) fs'
  | [], k, fs, h, _ => ⟨fs, rfl, h⟩
  | d :: ds, k, fs, h, st => by
    obtain ⟨fs1, fs2, h1, h2, h3⟩ := st 0 d fs rfl h
    obtain ⟨fs', e, q⟩ := forL_ind I ds (k + 1) fs2 h3 fun i d' fs hd hI => by
      have := st (i + 1) d' fs (by simpa using hd) (by rw [show k + (i + 1) = k + 1 + i by omega]; exact hI)
      rwa [show k + (i + 1) = k + 1 + i by omega] at this
    refine ⟨fs', ?_, by rw [List.length_cons, show k + (ds.length + 1) = k + 1 + ds.length by omega]; exact q⟩
    rcases h2 with h2 | h2
    · rw [forL_nx h1 h2]; exact e
    · rw [forL_ct h1 h2]; exact e
theorem sWhile_ind {c : M Bool} {b : SM} (I : Nat → Fs → Prop) (P : Fs → Prop) (st : ∀ m fs, I m fs → (∃ fs1, c fs = some (.inr false, fs1) ∧ P fs1) ∨ ∃ fs1 fs2 m', m' < m ∧ c fs = some (.inr true, fs1) ∧ b fs1 = some (.nx, fs2) ∧ I m' fs2) :
    ∀ (m : Nat) (fs : Fs), I m fs → ∃ fs', sWhile c b fs = some (.nx, fs') ∧ P fs' := by
  intro m
  induction m using Nat.strongRecOn with
  | ind m ih =>
    intro fs h
    rcases st m fs h with ⟨fs1, h1, h2⟩ | ⟨fs1, fs2, m', h0, h1, h2, h3⟩
    · exact ⟨fs1, sWhile_stop h1, h2⟩
    · obtain ⟨fs', e, q⟩ := ih m' h0 fs2 h3
      exact ⟨fs', by rw [sWhile_turn h1 h2]; exact e, q⟩
/-! comprehensions -/
theorem lcL_turn {vs : List Nat} {g : D → Fs → Option Fs} {tt : M Bool} {fe : M Rv} {d : D} {ds acc : List D} {fs fs1 fs2 fs3 : Fs} {x : D} (h1 : g d fs = some fs1) (h2 : tt fs1 = some (.inr true, fs2)) (h3 : fD fe fs2 = some (.inr x, fs3)) (hz : acc.length < sizeLine) :
    lcL vs g tt fe (d :: ds) acc fs = lcL vs g tt fe ds (acc ++ [x]) (wipeF fs3 vs) := by
  simp only [lcL, h1, h2, h3, hz, if_true]
theorem lcL_skip {vs : List Nat} {g : D → Fs → Option Fs} {tt : M Bool} {fe : M Rv} {d : D} {ds acc : List D} {fs fs1 fs2 : Fs} (h1 : g d fs = some fs1) (h2 : tt fs1 = some (.inr false, fs2)) :
    lcL vs g tt fe (d :: ds) acc fs = lcL vs g tt fe ds acc (wipeF fs2 vs) := by
  simp only [lcL, h1, h2]
/-- the same slots at each turn -/
theorem lcL_filter {vs : List Nat} {g : D → Fs → Option Fs} {tt : M Bool} {fe : M Rv} (p : D → Bool) (F : D → D) (fs : Fs) : ∀ (ds acc : List D), acc.length + ds.length ≤ sizeLine →
    (∀ d ∈ ds, ∃ fs1 fs2, g d fs = some fs1 ∧ tt fs1 = some (.inr (p d), fs2) ∧ (p d = false → wipeF fs2 vs = fs) ∧ (p d = true → ∃ fs3, fD fe fs2 = some (.inr (F d), fs3) ∧ wipeF fs3 vs = fs)) →
    lcL vs g tt fe ds acc fs = some (acc ++ (ds.filter p).map F, fs)
  | [], acc, _, _ => by simp [lcL]
  | d :: ds, acc, hz, h => by
    rw [List.length_cons] at hz
    obtain ⟨fs1, fs2, h1, h2, h3, h4⟩ := h d List.mem_cons_self
    cases q : p d with
    | true =>
      obtain ⟨fs3, h5, h6⟩ := h4 q
      rw [q] at h2
      rw [lcL_turn h1 h2 h5 (by omega), h6, lcL_filter p F fs ds _ (by rw [List.length_append, List.length_singleton]; omega) fun e he => h e (List.mem_cons_of_mem _ he), List.filter_cons_of_pos q, List.map_cons, List.append_assoc]
      rfl
    | false =>
      rw [q] at h2
      rw [lcL_skip h1 h2, h3 q, lcL_filter p F fs ds _ (by omega) fun e he => h e (List.mem_cons_of_mem _ he), List.filter_cons_of_neg (by rw [q]; decide)]
theorem lcL_map {vs : List Nat} {g : D → Fs → Option Fs} {fe : M Rv} (F : D → D) (fs : Fs) (ds acc : List D) (hz : acc.length + ds.length ≤ sizeLine)
    (h : ∀ d ∈ ds, ∃ fs1, g d fs = some fs1 ∧ ∃ fs3, fD fe fs1 = some (.inr (F d), fs3) ∧ wipeF fs3 vs = fs) :
    lcL vs g tYesF fe ds acc fs = some (acc ++ ds.map F, fs) := by
  have := lcL_filter (vs := vs) (g := g) (tt := tYesF) (fe := fe) (fun _ => true) F fs ds acc hz fun d hd => by
    obtain ⟨fs1, h1, fs3, h2, h3⟩ := h d hd
    exact ⟨fs1, fs1, h1, rfl, (fun q => nomatch q), fun _ => ⟨fs3, h2, h3⟩⟩
  rw [this, List.filter_eq_self.mpr (by simp)]
/-- slots that change -/
theorem lcL_inv {vs : List Nat} {g : D → Fs → Option Fs} {fe : M Rv} (I : Fs → Prop) (G : D → Prop) : ∀ (ds acc : List D) (fs : Fs), acc.length + ds.length ≤ sizeLine → I fs →
    (∀ d ∈ ds, ∀ fs, I fs → ∃ fs1 fs3 x, g d fs = some fs1 ∧ fD fe fs1 = some (.inr x, fs3) ∧ G x ∧ I (wipeF fs3 vs)) →
    ∃ out fs', lcL vs g tYesF fe ds acc fs = some (acc ++ out, fs') ∧ I fs' ∧ out.length = ds.length ∧ ∀ x ∈ out, G x
  | [], acc, fs, _, hI, _ => ⟨[], fs, by simp [lcL], hI, rfl, fun x h => by cases h⟩
  | d :: ds, acc, fs, hz, hI, h => by
    rw [List.length_cons] at hz
    obtain ⟨fs1, fs3, x, h1, h2, h3, h4⟩ := h d List.mem_cons_self fs hI
    obtain ⟨out, fs', e1, e2, e3, e4⟩ := lcL_inv I G ds (acc ++ [x]) (wipeF fs3 vs) (by rw [List.length_append, List.length_singleton]; omega) h4 fun e he => h e (List.mem_cons_of_mem _ he)
    refine ⟨x :: out, fs', ?_, e2, by rw [List.length_cons, List.length_cons, e3], fun y hy => ?_⟩
    · rw [lcL_turn h1 rfl h2 (by omega), e1, List.append_assoc]; rfl
    · rcases List.mem_cons.mp hy with rfl | hy
      · exact h3
      · exact e4 y hy
theorem fLc_of {vs : List Nat} {f : M (List D)} {g : D → Fs → Option Fs} {tt : M Bool} {fe : M Rv} {fs fs1 fs2 : Fs} {ds out : List D} (e : f fs = some (.inr ds, fs1)) (h : lcL vs g tt fe ds [] (wipeF fs1 vs) = some (out, fs2)) : fLc vs f g tt fe fs = some (.inr (.fresh (.list out)), fs2) := by
  unfold fLc
  rw [bnd_inr e, h]
/-! slices -/
theorem cutL_to {α : Type} (xs : List α) (p : Nat) : cutL xs none (some (p : Int)) = xs.take p := by
  unfold cutL
  rw [HT.sIx_none, HT.sIx_nat, List.drop_zero, Nat.sub_zero, ← List.take_eq_take_min]
theorem cutL_from {α : Type} (xs : List α) (p : Nat) : cutL xs (some (p : Int)) none = xs.drop p := by
  unfold cutL
  rw [HT.sIx_none, HT.sIx_nat]
  by_cases h : p ≤ xs.length
  · rw [Nat.min_eq_left h]
    exact List.take_of_length_le (by rw [List.length_drop]; exact Nat.le_refl _)
  · rw [Nat.min_eq_right (by omega), List.drop_of_length_le (Nat.le_refl _), List.drop_of_length_le (by omega)]
    simp
theorem cutL_mid {α : Type} (xs : List α) (i j : Nat) : cutL xs (some (i : Int)) (some (j : Int)) = (xs.take j).drop i := by
  unfold cutL
  rw [HT.sIx_nat, HT.sIx_nat]
  apply List.ext_getElem?
  intro k
  simp only [List.getElem?_take, List.getElem?_drop]
  by_cases h : k < min j xs.length - min i xs.length
  · rw [if_pos h, if_pos (by omega), Nat.min_eq_left (by omega : i ≤ xs.length)]
  · rw [if_neg h]
    by_cases h2 : i + k < j
    · rw [if_pos h2, List.getElem?_eq_none (by omega)]
    · rw [if_neg h2]
theorem cutL_map {α β : Type} (f : α → β) (xs : List α) (lo hi : Option Int) : cutL (xs.map f) lo hi = (cutL xs lo hi).map f := by
  unfold cutL
  rw [List.length_map, List.map_take, List.map_drop]
theorem cutL_sub {α : Type} {xs : List α} {lo hi : Option Int} {x : α} (h : x ∈ cutL xs lo hi) : x ∈ xs := List.mem_of_mem_drop (List.mem_of_mem_take h)
theorem cutL_len {α : Type} (xs : List α) (lo hi : Option Int) : (cutL xs lo hi).length ≤ xs.length := by
  unfold cutL
  rw [List.length_take, List.length_drop]
  omega
/-! rising lists of ints -/
theorem sub_perm {α : Type} [BEq α] [LawfulBEq α] : ∀ {l m : List α}, l.Nodup → (∀ x ∈ l, x ∈ m) → ∃ r, (l ++ r).Perm m
  | [], m, _, _ => ⟨m, .refl _⟩
  | a :: l, m, h, hs => by
    rw [List.nodup_cons] at h
    obtain ⟨r, hr⟩ := sub_perm (l := l) (m := m.erase a) h.2 fun x hx => (List.mem_erase_of_ne (fun e : x = a => h.1 (by rw [← e]; exact hx))).mpr (hs x (List.mem_cons_of_mem _ hx))
    exact ⟨r, ((hr.cons a)).trans (List.perm_cons_erase (hs a List.mem_cons_self)).symm⟩
theorem perm_of_sub {α : Type} [BEq α] [LawfulBEq α] {l m : List α} (h : l.Nodup) (hs : ∀ x ∈ l, x ∈ m) (hl : l.length = m.length) : l.Perm m := by
  obtain ⟨r, hr⟩ := sub_perm h hs
  have := hr.length_eq
  rw [List.length_append] at this
  have e : r = [] := List.eq_nil_of_length_eq_zero (by omega)
  rw [e, List.append_nil] at hr
  exact hr
/-! numbers that fit -/
theorem bits_le {a : Int} {k : Nat} (h : a.natAbs < 2 ^ k) : Builtin.Int.intBits a ≤ k := PySem.intBits_le_iff.mpr h
theorem mulOk_of {a b : Int} (h : Builtin.Int.intBits a ≤ 64 ∨ Builtin.Int.intBits b ≤ 64 ∨ Builtin.Int.intBits a + Builtin.Int.intBits b ≤ 2 ^ 26) : mulOk a b = true := by
  unfold mulOk
  have e1 : shortFactorBits = 64 := rfl
  rw [Bool.not_eq_true', e1]
  rcases h with h | h | h
  · rw [decide_eq_false (by omega), Bool.false_and, Bool.false_and]
  · rw [decide_eq_false (p := Builtin.Int.intBits b > 64) (by omega), Bool.and_false, Bool.false_and]
  · have : Builtin.Int.intTooBig ((Builtin.Int.intBits a : Int) + Builtin.Int.intBits b) = false := by
      unfold Builtin.Int.intTooBig
      refine decide_eq_false ?_
      have e2 : bitsLine = 2 ^ 27 := by rfl
      rw [e2]
      omega
    rw [this, Bool.and_false]
theorem mulOk_l {a b : Int} (h : a.natAbs < 2 ^ 64) : mulOk a b = true := mulOk_of (.inl (bits_le h))
theorem mulOk_r {a b : Int} (h : b.natAbs < 2 ^ 64) : mulOk a b = true := mulOk_of (.inr (.inl (bits_le h)))
theorem mulOk_b {a b : Int} (h : Builtin.Int.intBits a + Builtin.Int.intBits b ≤ 2 ^ 26) : mulOk a b = true := mulOk_of (.inr (.inr h))
theorem bits64 {a : Int} {k : Nat} (h : a.natAbs < 2 ^ 64) (hk : 64 ≤ k) : Builtin.Int.intBits a ≤ k := Nat.le_trans (bits_le h) hk
theorem divOk_of {i j : Int} (h0 : j ≠ 0) (h : Builtin.Int.intBits j ≤ 9000) : divOk i j = true := by
  unfold divOk
  have e : (j != 0) = true := by simpa using h0
  rw [e, Bool.true_and]
  refine decide_eq_true ?_
  have h2 := PySem.intBits_le_iff.mp h
  exact (Nat.log2_lt (by omega)).mpr h2

theorem divOk_64 {i j : Int} (h0 : j ≠ 0) (h : j.natAbs < 2 ^ 64) : divOk i j = true := divOk_of h0 (bits64 h (by decide))
theorem shaped_int (a : Int) : SeqAt.shaped (.int a) = true := by simp [SeqAt.shaped, PyData.canLay0, PyData.depth]
theorem hEq_int (a b : Int) : hEq (.int a) (.int b) = some (.val (.bool (decide (a = b)))) := by
  unfold hEq
  rw [shaped_int, shaped_int, show PyData.eqv (.int a) (.int b) = decide (a = b) by simp only [PyData.eqv]; rfl]
  rfl
theorem hNe_int (a b : Int) : hNe (.int a) (.int b) = some (.val (.bool (!decide (a = b)))) := by
  unfold hNe
  rw [shaped_int, shaped_int, show PyData.eqv (.int a) (.int b) = decide (a = b) by simp only [PyData.eqv]; rfl]
  rfl
mutual
/-- no truths within, no dicts: equal is the same -/
def noB : D → Bool
  | .none => true
  | .int _ => true
  | .str s => PyData.strOk s
  | .bool _ => false
  | .list ds => noBs ds
  | .tuple ds => noBs ds
  | .dict _ => false
def noBs : List D → Bool
  | [] => true
  | d :: ds => noB d && noBs ds
end
mutual
theorem eqv_iff : ∀ {d e : D}, noB d = true → noB e = true → (PyData.eqv d e = true ↔ d = e)
  | .none, e, _, h => by cases e <;> simp_all [PyData.eqv, noB]
  | .int i, e, _, h => by cases e <;> simp_all [PyData.eqv, noB]
  | .str i, e, _, h => by cases e <;> simp_all [PyData.eqv, noB]
  | .bool _, _, h, _ => by simp [noB] at h
  | .dict _, _, h, _ => by simp [noB] at h
  | .list ds, e, h1, h2 => by
    cases e with
    | list es =>
      have := eqvAll_iff (ds := ds) (es := es) (by simpa [noB] using h1) (by simpa [noB] using h2)
      simp [PyData.eqv, this]
    | _ => simp_all [PyData.eqv, noB]
  | .tuple ds, e, h1, h2 => by
    cases e with
    | tuple es =>
      have := eqvAll_iff (ds := ds) (es := es) (by simpa [noB] using h1) (by simpa [noB] using h2)
      simp [PyData.eqv, this]
    | _ => simp_all [PyData.eqv, noB]
theorem eqvAll_iff : ∀ {ds es : List D}, noBs ds = true → noBs es = true → (PyData.eqvAll ds es = true ↔ ds = es)
  | [], [], _, _ => by simp [PyData.eqvAll]
  | [], _ :: _, _, _ => by simp [PyData.eqvAll]
  | _ :: _, [], _, _ => by simp [PyData.eqvAll]
  | d :: ds, e :: es, h1, h2 => by
    simp only [noBs, Bool.and_eq_true] at h1 h2
    have a := eqv_iff (d := d) (e := e) h1.1 h2.1
    have b := eqvAll_iff (ds := ds) (es := es) h1.2 h2.2
    simp [PyData.eqvAll, a, b]
end
theorem hEq_t {d e : D} (h1 : SeqAt.shaped d = true) (h2 : SeqAt.shaped e = true) (h : PyData.eqv d e = true) : hEq d e = some (.val (.bool true)) := by unfold hEq; rw [h1, h2, h]; rfl
theorem hEq_f {d e : D} (h1 : SeqAt.shaped d = true) (h2 : SeqAt.shaped e = true) (h : PyData.eqv d e = false) : hEq d e = some (.val (.bool false)) := by unfold hEq; rw [h1, h2, h]; rfl
theorem hNe_t {d e : D} (h1 : SeqAt.shaped d = true) (h2 : SeqAt.shaped e = true) (h : PyData.eqv d e = true) : hNe d e = some (.val (.bool false)) := by unfold hNe; rw [h1, h2, h]; rfl
theorem hNe_f {d e : D} (h1 : SeqAt.shaped d = true) (h2 : SeqAt.shaped e = true) (h : PyData.eqv d e = false) : hNe d e = some (.val (.bool true)) := by unfold hNe; rw [h1, h2, h]; rfl
mutual
theorem noB_lay : ∀ d : D, noB d = true → d.canLay0 = true
  | .none, _ => by simp [PyData.canLay0]
  | .int i, _ => by simp [PyData.canLay0]
  | .str i, h => by simpa [PyData.canLay0, noB] using h
  | .bool i, _ => by simp [PyData.canLay0]
  | .dict _, h => by simp [noB] at h
  | .list ds, h => by simp only [PyData.canLay0]; exact noBs_lay ds (by simpa [noB] using h)
  | .tuple ds, h => by simp only [PyData.canLay0]; exact noBs_lay ds (by simpa [noB] using h)
theorem noBs_lay : ∀ ds : List D, noBs ds = true → PyData.canLayAll0 ds = true
  | [], _ => by simp [PyData.canLayAll0]
  | d :: ds, h => by
    simp only [noBs, Bool.and_eq_true] at h
    simp only [PyData.canLayAll0, noB_lay d h.1, noBs_lay ds h.2, Bool.and_self]
end
mutual
/-- at most k deep -/
def dpth : Nat → D → Bool
  | _, .none => true
  | _, .int _ => true
  | _, .str _ => true
  | _, .bool _ => true
  | 0, .list _ => false
  | 0, .tuple _ => false
  | k + 1, .list ds => dpths k ds
  | k + 1, .tuple ds => dpths k ds
  | _, .dict _ => false
def dpths : Nat → List D → Bool
  | _, [] => true
  | k, d :: ds => dpth k d && dpths k ds
end
mutual
theorem dpth_le : ∀ {k : Nat} {d : D}, dpth k d = true → d.depth ≤ k
  | _, .none, _ => by simp [PyData.depth]
  | _, .int _, _ => by simp [PyData.depth]
  | _, .str _, _ => by simp [PyData.depth]
  | _, .bool _, _ => by simp [PyData.depth]
  | 0, .list _, h => by simp [dpth] at h
  | 0, .tuple _, h => by simp [dpth] at h
  | k + 1, .list ds, h => by
    have := dpths_le (k := k) (ds := ds) (by simpa [dpth] using h)
    simp only [PyData.depth]; omega
  | k + 1, .tuple ds, h => by
    have := dpths_le (k := k) (ds := ds) (by simpa [dpth] using h)
    simp only [PyData.depth]; omega
  | 0, .dict _, h => by simp [dpth] at h
  | _ + 1, .dict _, h => by simp [dpth] at h
theorem dpths_le : ∀ {k : Nat} {ds : List D}, dpths k ds = true → PyData.depthAll ds ≤ k
  | _, [], _ => by simp [PyData.depthAll]
  | k, d :: ds, h => by
    simp only [dpths, Bool.and_eq_true] at h
    have a := dpth_le h.1
    have b := dpths_le h.2
    simp only [PyData.depthAll]
    omega
end
theorem shaped_by {d : D} (k : Nat) (h : noB d = true) (hd : dpth k d = true) (hk : k ≤ 64) : SeqAt.shaped d = true := by
  unfold SeqAt.shaped
  rw [noB_lay d h, decide_eq_true (Nat.le_trans (dpth_le hd) hk)]
  rfl
theorem noBs_of {ds : List D} (h : ∀ d ∈ ds, noB d = true) : noBs ds = true := by
  induction ds with
  | nil => simp [noBs]
  | cons d ds ih => simp only [noBs, h d List.mem_cons_self, ih fun e he => h e (List.mem_cons_of_mem _ he), Bool.and_self]
theorem dpths_of {k : Nat} {ds : List D} (h : ∀ d ∈ ds, dpth k d = true) : dpths k ds = true := by
  induction ds with
  | nil => simp [dpths]
  | cons d ds ih => simp only [dpths, h d List.mem_cons_self, ih fun e he => h e (List.mem_cons_of_mem _ he), Bool.and_self]
theorem eqv_same {d : D} (h : noB d = true) : PyData.eqv d d = true := (eqv_iff h h).mpr rfl
theorem eqv_ne {d e : D} (h : noB d = true) (h2 : noB e = true) (n : d ≠ e) : PyData.eqv d e = false := by
  cases q : PyData.eqv d e with
  | false => rfl
  | true => exact absurd ((eqv_iff h h2).mp q) n
end Fx

namespace Fx
open PySem PySem.Spec PyProof.Rows L2
/-! ### own errors: raise -/
/-- an own class over ValueError -/
structure Ec (K : PySem.W.Frag) (mg : Str → Option Value) (x : Str) where
  C : Addr
  m : mg x = some (.ref C)
  q : PySem.W.excIn K C [.type "ValueError", .type "Exception", .type "BaseException", .type "object"] "ValueError.__new__" = true
  k : PySem.W.keepIn K (.ref C) = true
  b : PySem.W.subIn K (.ref C) (.type "BaseException") = some true
  t : PySem.W.typeIn K (.ref C) = some (.type "type")
section
variable {X : Cx} {J : Inf} {W : WX}
def sRaise (x : Cls) : SM := fun fs => some (.ex x, fs)
theorem fs_raise {x m : Str} {j : Nat} {p p2 pos pos' : Pos} (c : Ec X.K X.mg x) (hc : X.calm = true) (tk : Takes X W) (hg : Gl X x) (hdb : (x == ("__debug__" : Str)) = false := by decide) :
    FS X J W (.Raise (some (.Call (.Name x p) [.Constant (.str m) j p2] [] pos)) none pos') (sRaise x) := by
  refine ⟨_, ps_raise hc tk (pmk_own PySem.F.excBase_ValueError c.q c.m c.k (raises_own c.b c.t) hg hdb), fun σ H S fs D r fs' R e p => ?_⟩
  cases e
  exact p σ H S R (Same.refl _) c.C c.m
end

/-! ### a def called within an except suite, its argument the caught error -/
structure FnP (P : Program) (w : World) (K : PySem.W.Frag) (mg : Str → Option Value) (base : Heap) (CX : CXT) (k : Nat) (f : Addr) (fd : FuncData) (ps : List Str) (p : Addr × Obj) (sp : Sp) : Prop where
  len : ∀ vs H Q E, sp vs H Q E → vs.length = ps.length
  run : ∀ (A : Around) (outer : List Env) (s : Shared) (H : Hp) (args : Args) (us : List Value) (vs : List V) (Q : VK) (E : XK), L2H.RoomH k A → L2H.PinOk outer H s p → Env0 P w K mg base A outer s H → BindsTo s fd args (ps.zip us) → Vals vs us → sp vs H Q E →
    codeAny (model P w) A (.call (.ref f) args) (CR CX outer P w H s Q E) s
theorem fn_ofP {CX : CXT} {P : Program} {w : World} {K : PySem.W.Frag} {mg : Str → Option Value} {base : Heap} {k : Nat} {f : Addr} {name qual : Str} {params : Arguments} {body : List Stmt} {scope : Scope} {dV kV doc pm cdv ct oc : Value} {an od : Option Addr}
    {osl : Array (Option Value)} {N ps : List Str} {p : Addr × Obj} {sp : Sp} (lk : K.lookup f = some ⟨oc, od, .func (PySem.W.fnOf name qual params body scope dV kV doc pm an cdv ct), osl⟩) (hcd : PySem.W.codeIn K cdv qual = true) (S : FnScope N ps scope)
    (len : ∀ vs H Q E, sp vs H Q E → vs.length = ps.length)
    (hbody : ∀ (A : Around) (outer : List Env) (s : Shared) (H : Hp) (vs : List V) (Q : VK) (E : XK), L2H.RoomH k (A.deeper (envOfC qual scope s.heap.objs.size f cdv)) → sp vs H Q E →
      ∃ t, PSs (L2H.cxH CX P w K mg base N qual scope f cdv A outer s H E p) body t ∧ t { nx := fun _ H' => Q .non H', rt := Q } (L2.start N vs) H) :
    FnP P w K mg base CX (k + 1) f (PySem.W.fnOf name qual params body scope dV kV doc pm an cdv ct) ps p sp := by
  refine ⟨len, fun A outer s H args us vs Q E hr hpin e0 hb r hsp => ?_⟩
  have hl := len _ _ _ _ hsp
  have KX : K.In s.heap := e0.mod.kin.keeps fun b o e => (e0.bs b o e).1
  have lim : s.heap.NoLimit := e0.mod.nolimit.keeps fun b o e => (e0.bs b o e).1
  have hkind : ∀ y ∈ ps.zip us, scope.names.lookup y.1 = some .local ∨ (scope.names.lookup y.1 = some .cell ∧ ((cellsFrom (s.heap.objs.size + 1) scope.names []).lookup y.1).isSome = true) := fun ⟨n, v⟩ hy => by
    rcases S.par n (List.of_mem_zip hy).1 with q | q
    · exact .inl q
    · exact .inr ⟨q, PySem.W.cellsFrom_some _ _ _ (.inl q)⟩
  refine codeAny_call_function hr.depth (KX _ _ lk) rfl S.co S.gen rfl (PySem.W.codeRec_of KX hcd) (hb _ _ _ _ ?_)
  refine wpAny_newFunctionEnv_cells S.kind hkind fun env he s1 x => ?_
  subst he
  refine ⟨lim.keeps x.toInCall.keep, codeAny_func ?_⟩
  obtain ⟨t, ht, hq⟩ := hbody A outer s H vs Q E (hr.deeper _) hsp
  have I : Inv (L2H.cxH CX P w K mg base N qual scope f cdv A outer s H E p) [] (L2.start N vs) H s1 := L2H.inv_startH S hpin e0 hl r x
  refine wpAny_mono (ht.run [] s1 (L2.start N vs) H _ I hq) (fun fl s' hs => ?_) fun e s' hs => hs
  have fin : ∀ {σ' : L2.St} {H' : Hp} {v : V} {u : Value}, Inv (L2H.cxH CX P w K mg base N qual scope f cdv A outer s H E p) [] σ' H' s' → RelV v u → Q v H' → CE outer P w H s Q u s' :=
    fun {σ' H' v u} J rv q => ⟨v, H', J.os, J.bare, J.base, J.hok, rv, q⟩
  cases fl with
  | ret u =>
    obtain ⟨v, σ', H', J, rv, q⟩ := hs
    exact fin J rv q
  | next =>
    obtain ⟨σ', H', J, q⟩ := hs
    exact fin (v := V.non) (u := Value.none) J rfl q
  | brk =>
    obtain ⟨_, _, _, q⟩ := hs
    exact False.elim q
  | cont =>
    obtain ⟨_, _, _, q⟩ := hs
    exact False.elim q
section
variable {X : Cx} {CX : CXT} {k : Nat} {f : Addr} {fd : FuncData} {ps : List Str} {p : Addr × Obj} {sp : Sp} {E : L2.St → XK} {x : Str} {q pos : Pos} {e : Expr} {es : List Expr} {t : TA}
theorem run_fnP {pins : List (Addr × Obj)} {σ : L2.St} {H : Hp} {s : Shared} {Q : VK} {us : List Value} {vs : List V} (F : FnP X.prog X.w X.K X.mg X.base CX k f fd ps p sp) (hr : L2H.RoomH k X.A) (hp : p ∈ X.pn) (hb : Binds X.K fd ps []) (hx : PassesAt CX X σ (E σ))
    (I : Inv X pins σ H s) (r : Vals vs us) (h : sp vs H Q (E σ)) : wpAny (model X.prog X.w) X.A (call (.ref f) us) (EP X pins σ Q) X.xe s := by
  have hl : us.length = ps.length := by rw [← r.length]; exact F.len _ _ _ _ h
  have b := hb s us I.kIn (by rw [List.append_nil]; exact hl)
  rw [List.append_nil] at b
  have P1 := I.pin p (List.mem_append_left _ hp)
  have hpin : L2H.PinOk X.stack H s p := ⟨P1.1, P1.2.1, fun hm => (List.mem_cons.mp (I.stkSub p.1 hm)).elim P1.2.2.1 P1.2.2.2.1, P1.2.2.2.2⟩
  refine wpAny_call (codeAny_mono (F.run X.A X.stack s H ⟨us, []⟩ us vs Q (E σ) hr hpin I.env0 b r h) fun r s' hq => ?_)
  cases r with
  | error e => exact hx pins H s e s' I hq
  | ok fl =>
    cases fl with
    | ret u => exact I.after hq
    | next => exact False.elim hq
    | brk => exact False.elim hq
    | cont => exact False.elim hq
theorem pe_callP (F : FnP X.prog X.w X.K X.mg X.base CX k f fd ps p sp) (hr : L2H.RoomH k X.A) (hp : p ∈ X.pn) (hg : Gl X x) (hm : X.mg x = some (.ref f)) (hk : PySem.W.keepIn X.K (.ref f) = true) (hb : Binds X.K fd ps []) (hx : ∀ σ, PassesAt CX X σ (E σ))
    (ha : PA X (e :: es) t) (hdb : (x == ("__debug__" : Str)) = false := by decide) (he : starEach (e :: es) X.env = (false, eval e X.env) :: starEach es X.env := by rfl) (hpl : (backTo pos (starEach es X.env)).any (·.1) = false := by rfl) :
    PE X (.Call (.Name x q) (e :: es) [] pos) (tCallS sp E t) := by
  refine ⟨fun pins s σ H Q I h => ?_⟩
  refine wpAny_Call_Name_kw (ld_glob I hg hm ?_ hdb)
  refine PySem.W.callWith_K (h₀ := X.base) I.ok.mod.kin hk (thn (ha.run pos pins s σ H _ I h) fun us s1 ⟨vs, H1, I1, r, q⟩ => ⟨I1.kIn, ?_⟩) he hpl
  exact run_fnP F hr hp hb (hx σ) I1 r q
/-- isinstance of the pinned error -/
theorem call_isP {D : Addr} (C : ExcC X.K D) (hp : p ∈ X.pn) (hz : Zc (.ref D) none p.2) (hf : ∃ vs, p.2.data = .fields vs) : CallR X (.builtin "isinstance") (rIsE X.K D p.1) := by
  intro pins s σ H xs us Q I r h
  obtain ⟨c, cv, b, rfl, hcv, e, q⟩ := h
  cases r with
  | cons rx rr =>
    cases rr with
    | cons rt rr =>
      cases rr
      cases rx
      have ec := hcv _ rt
      subst ec
      obtain ⟨hget, _⟩ := I.pin p (List.mem_append.mpr (.inl hp))
      obtain ⟨vs, hv⟩ := hf
      have J : PySem.W.InstAt s.heap p.1 p.2 D none := by
        obtain ⟨pa, oc, od, oda, osl⟩ := p
        obtain ⟨h1, h2⟩ := hz
        dsimp only at h1 h2 hv
        subst h1 h2 hv
        exact ⟨hget, rfl, rfl, trivial⟩
      exact PySem.W.kia_one (PySem.W.handS_kitx_exc C.hg C.hk C.hs C.hd C.ha C.hn C.ht C.hm) I.kIn J e (fun z => nomatch z) fun tk => ⟨.bl b, H, I.kept (t' := tk) fun _ _ z => z, rfl, q⟩
end
end Fx
namespace Fx
open PySem PySem.Spec PyProof.Rows L2
/-- the error's kind, told by a word -/
def spK (a : Addr) (w : Str) : Sp := fun vs H Q _ => vs = [.ref a] ∧ ∀ H', Same H H' → Q (.str w) H'
theorem same_lay {H : Hp} {p : Addr} {o : HO} (h : H p = none) : Same H (upd H p o) := fun a u e => by rw [upd_ne (ne_of_none e h)]; exact e
theorem dpAll_bl {K : PySem.W.Frag} {H : Hp} : ∀ bs : List Bool, DpAll K H (bs.map V.bl) (bs.map PyData.bool)
  | [] => .nil
  | b :: bs => .cons (.bl b) (dpAll_bl bs)
theorem lay_bls : ∀ bs : List Bool, PyData.canLayAll0 (bs.map PyData.bool) = true
  | [] => by simp [PyData.canLayAll0]
  | b :: bs => by simp [PyData.canLayAll0, PyData.canLay0, lay_bls bs]
theorem depth_bls : ∀ bs : List Bool, PyData.depthAll (bs.map PyData.bool) = 0
  | [] => by simp [PyData.depthAll]
  | b :: bs => by simp [PyData.depthAll, PyData.depth, depth_bls bs]
theorem sh_bls (bs : List Bool) : SeqAt.shaped (.list (bs.map PyData.bool)) = true := by
  unfold SeqAt.shaped
  rw [show PyData.canLay0 (.list (bs.map PyData.bool)) = true by simp only [PyData.canLay0]; exact lay_bls bs, show PyData.depth (.list (bs.map PyData.bool)) = 1 by simp only [PyData.depth, depth_bls]]
  rfl
theorem sh_bl (b : Bool) : SeqAt.shaped (.bool b) = true := by simp [SeqAt.shaped, PyData.canLay0, PyData.depth]
theorem kind1_eval {K : PySem.W.Frag} {a : Addr} {ta1 ta2 ta3 : TA} {bs1 bs2 : List Bool} {ws : List Str} {j : Nat} {w : Str} {D : Ends} {H : Hp}
    (h1 : ∀ (σ : L2.St) (H : Hp) (Q : List V → Hp → Prop), σ[0]? = some (some (V.ref a)) → Q (bs1.map V.bl) H → ta1 σ H Q) (h2 : ∀ (σ : L2.St) (H : Hp) (Q : List V → Hp → Prop), σ[0]? = some (some (V.ref a)) → Q (bs2.map V.bl) H → ta2 σ H Q)
    (h3 : ∀ (σ : L2.St) (H : Hp) (Q : List V → Hp → Prop), Q (ws.map V.str) H → ta3 σ H Q) (hz : bs1.length + bs2.length ≤ 1000) (hzw : ws.length ≤ 1000) (hj : (bs1 ++ bs2)[j]? = some true) (hlt : ∀ m, m < j → (bs1 ++ bs2)[m]? = some false) (hw : ws[j]? = some w)
    (q : ∀ H', Same H H' → D.rt (.str w) H') :
    (tSeq (tAsg (tLst ta1) (gName 1)) (tSeq (tAsg (tOp rCat (tVar 1) (tLst ta2)) (gName 1)) (tRet (tOp (rIxL K) (tLst ta3) (tBM K "list" (rIndexD K) (tVar 1) (tCons (tC (.bl true)) tNil)))))) D [some (.ref a), none] H := by
  have z1 : bs1.length ≤ sizeLine := szl _ (by omega)
  have z2 : bs2.length ≤ sizeLine := szl _ (by omega)
  have z3 : ws.length ≤ sizeLine := szl _ (by omega)
  refine h1 _ _ _ rfl ⟨by rw [List.length_map]; exact z1, fun l1 n1 => ?_⟩
  refine ⟨.ref l1, rfl, ?_⟩
  refine h2 _ _ _ rfl ⟨by rw [List.length_map]; exact z2, fun l2 n2 => ?_⟩
  have k12 : l1 ≠ l2 := ne_of_none upd_same n2
  refine ⟨l1, l2, bs1.map V.bl, bs2.map V.bl, rfl, rfl, by rw [upd_ne k12, upd_same], upd_same, by rw [List.length_map, List.length_map]; exact szl _ (by omega), fun l3 n3 => ?_⟩
  refine h3 _ _ _ ⟨by rw [List.length_map]; exact z3, fun l4 n4 => ?_⟩
  have k34 : l3 ≠ l4 := ne_of_none upd_same n4
  have e3 : (upd (upd (upd (upd H l1 (.lst (bs1.map V.bl))) l2 (.lst (bs2.map V.bl))) l3 (.lst (bs1.map V.bl ++ bs2.map V.bl))) l4 (.lst (ws.map V.str))) l3 = some (.lst ((bs1 ++ bs2).map V.bl)) := by
    rw [upd_ne k34, upd_same, List.map_append]
  refine ⟨.ref l3, rfl, .inl ⟨rfl, _, SqL.of e3⟩, ?_⟩
  have hl : j < ws.length := (List.getElem?_eq_some_iff.mp hw).1
  refine ⟨l3, .bl true, .bool true, (bs1 ++ bs2).map PyData.bool, j, .bool true, rfl, rfl, .lst (SqL.of e3) (dpAll_bl _), .bl true, sh_bls _, sh_bl _, by rw [List.getElem?_map, hj]; rfl, by simp [PyData.eqv], fun m z' hm hz' => ?_, ?_⟩
  · rw [List.getElem?_map, hlt m hm] at hz'
    cases hz'
    simp [PyData.eqv]
  · refine ⟨l4, ws.map V.str, (j : Nat), .str w, rfl, rfl, SqL.of upd_same, ?_, ?_⟩
    · rw [atI_natE, List.getElem?_map, hw]
      rfl
    · exact q _ (((same_lay n1).trans (same_lay n2)).trans ((same_lay n3).trans (same_lay n4)))
/-! try: e, except C as n: word = kind(n) -/
section
variable {X : Cx} {J : Inf} {W : WX}
/-- the classes told: kd's word for each -/
def sTryK (ie iw : Nat) (kd : Cls → Option Str) (g : SM) : SM := fun fs => match g fs with
  | some (.ex c, fs1) => match fs1[ie]? with
    | some .no => match kd c with
      | some w => some (.nx, fs1.set iw (.dat (.str w)))
      | none => none
    | _ => none
  | r => r
/-- .. the word is handed back -/
def sTryR (ie : Nat) (kd : Cls → Option Str) (g : SM) : SM := fun fs => match g fs with
  | some (.ex c, fs1) => match fs1[ie]? with
    | some .no => match kd c with
      | some w => some (.ret false (.str w), fs1)
      | none => none
    | _ => none
  | r => r
theorem Rel.gone {K : PySem.W.Frag} {σ : L2.St} {H S : Hp} {fs : Fs} (R : Rel K J σ H S fs) {i : Nat} (h : fs[i]? = some .no) (o : Option V) : Rel K J (σ.set i o) H S fs where
  sub := R.sub
  len := by rw [List.length_set]; exact R.len
  dat := fun j d q => by
    by_cases hj : i = j
    · subst hj; rw [h] at q; cases q
    · rw [List.getElem?_set_ne hj]; exact R.dat j d q
  own := fun j n d q => by
    by_cases hj : i = j
    · subst hj; rw [h] at q; cases q
    · rw [List.getElem?_set_ne hj]; exact R.own j n d q
  sep := fun j k n m d e p q1 q2 z1 z2 => by
    by_cases h1 : i = j
    · subst h1; rw [h] at q1; cases q1
    · by_cases h2 : i = k
      · subst h2; rw [h] at q2; cases q2
      · rw [List.getElem?_set_ne h1] at z1
        rw [List.getElem?_set_ne h2] at z2
        exact R.sep j k n m d e p q1 q2 z1 z2
  keep0 := R.keep0
  grow0 := R.grow0
  new0 := R.new0
  live0 := R.live0
  bwl := R.bwl
theorem Rel.same {K : PySem.W.Frag} {σ : L2.St} {H H' S : Hp} {fs : Fs} (R : Rel K J σ H S fs) (s : Same H H') : Rel K J σ H' S fs :=
  R.grown ⟨fun a o e _ => s a o e, Same.refl _, fun _ z => .inl z, fun a z => by
    cases q : H a with
    | none => exact absurd q z
    | some o => rw [s a o q]; simp⟩ (R.sub.trans s)
/-- the suite's wish -/
def tsK (mg : Str → Option Value) (kd : Cls → Option Str) (ie iw : Nat) (a : Addr) (cls : Value) (d : Option Addr) : TS := fun D σ H => ∃ (c : Cls) (w : Str) (C : Addr), cls = .ref C ∧ d = none ∧ kd c = some w ∧ mg c = some (.ref C) ∧ σ[ie]? = some (some (.ref a)) ∧ ∀ H', Same H H' → D.nx (σ.set iw (some (.str w))) H'
def tsR (mg : Str → Option Value) (kd : Cls → Option Str) (ie : Nat) (a : Addr) (cls : Value) (d : Option Addr) : TS := fun D σ H => ∃ (c : Cls) (w : Str) (C : Addr), cls = .ref C ∧ d = none ∧ kd c = some w ∧ mg c = some (.ref C) ∧ σ[ie]? = some (some (.ref a)) ∧ ∀ H', Same H H' → D.rt (.str w) H'
variable {x n : Str} {CS : Addr} {ie iw : Nat} {body suite : List Stmt} {b₀ : Stmt} {np pos pos' : Pos} {g : SM} {kd : Cls → Option Str}
theorem fs_tryK (hs : X.stack = X.env :: X.outer) (hf : X.env.frame = some X.env.locals) (hN : X.N.Nodup) (hne : iw ≠ ie) (hc : Names X x (.ref CS)) (tk : Takes X W)
    (he : ∀ c w C, kd c = some w → X.mg c = some (.ref C) → PySem.W.exmOne X.K (.ref C) (.ref CS) = some true)
    (hb : ∀ (W' : WX) (pn : List (Addr × Obj)) (xe : Value → Shared → Prop), Takes (X.tr pn xe) W' → PassesOwn (model X.prog X.w) X.A X.env xe → FSs (X.tr pn xe) J W' body g)
    (hsu : ∀ (a : Addr) (oe : Obj) (pn : List (Addr × Obj)) (c : Cls) (w : Str) (C : Addr), kd c = some w → X.mg c = some (.ref C) → Zc (.ref C) none oe → (∃ vs, oe.data = .fields vs) →
      ∃ t, PSs (X.suite a ((a, oe) :: pn)) (b₀ :: suite) t ∧ ∀ (D : Ends) (σ : L2.St) (H : Hp), σ[ie]? = some (some (.ref a)) → (∀ H', Same H H' → D.nx (σ.set iw (some (.str w))) H') → t D σ H)
    (hi : X.N[ie]? = some n := by rfl) (hln : X.env.kindOf n = some .local := by rfl) :
    FS X J W (.Try body [.ExceptHandler (some (.Name x np)) (some n) (b₀ :: suite) pos'] [] [] pos) (sTryK ie iw kd g) := by
  refine ⟨_, ps_try_as (tb := fun W' D σ H => ∀ pn xe (h1 : Takes (X.tr pn xe) W') (h2 : PassesOwn (model X.prog X.w) X.A X.env xe), (Classical.choose (hb W' pn xe h1 h2)) D σ H) (ts := tsK X.mg kd ie iw) (Wout := W) hs hf hN hi hln hc tk
    (fun W' pn xe h1 h2 => ⟨fun pins s σ H D I h => (Classical.choose_spec (hb W' pn xe h1 h2)).1.run pins s σ H D I (h pn xe h1 h2)⟩) (fun a oe cls d pn hz hfl => ⟨fun pins s σ H D I h => ?_⟩), fun σ H S fs D r fs' R e p pn xe h1 h2 => ?_⟩
  · obtain ⟨c, w, C, rfl, rfl, k1, k2, k3, k4⟩ := h
    obtain ⟨t, pt, et⟩ := hsu a oe pn c w C k1 k2 hz hfl
    exact pt.run pins s σ H D I (et D σ H k3 k4)
  · have sim := (Classical.choose_spec (hb _ pn xe h1 h2)).2
    unfold sTryK at e
    split at e
    · rename_i c fs1 q
      split at e
      · rename_i qn
        split at e
        · rename_i w qw
          cases e
          refine sim σ H S fs D _ fs1 R q fun σ' H' S' R' gr C hC => ⟨true, he c w C qw hC, fun _ a ha => ?_, fun z => nomatch z⟩
          have hl : ie < σ'.length := by rw [R'.len]; exact (List.getElem?_eq_some_iff.mp qn).1
          refine ⟨c, w, C, rfl, rfl, qw, hC, List.getElem?_set_self hl, fun H2 s2 => ?_⟩
          have R2 := ((R'.gone qn (some (V.ref a))).same s2).putD iw (Rp.str w)
          have qn2 : (fs1.set iw (.dat (.str w)))[ie]? = some .no := by rw [List.getElem?_set_ne hne]; exact qn
          exact p _ H2 S' (R2.gone qn2 none) gr
        · cases e
      · cases e
    · rename_i hne'
      refine sim σ H S fs D _ fs' R e fun σ' H' S' R' gr => ?_
      have z := p σ' H' S' R' gr
      cases r with
      | nx => exact z
      | bk => exact z
      | ct => exact z
      | ret fr d => exact z
      | ex c => exact absurd e (hne' c fs')
theorem fs_tryR (hs : X.stack = X.env :: X.outer) (hf : X.env.frame = some X.env.locals) (hN : X.N.Nodup) (hc : Names X x (.ref CS)) (tk : Takes X W)
    (he : ∀ c w C, kd c = some w → X.mg c = some (.ref C) → PySem.W.exmOne X.K (.ref C) (.ref CS) = some true)
    (hb : ∀ (W' : WX) (pn : List (Addr × Obj)) (xe : Value → Shared → Prop), Takes (X.tr pn xe) W' → PassesOwn (model X.prog X.w) X.A X.env xe → FSs (X.tr pn xe) J W' body g)
    (hsu : ∀ (a : Addr) (oe : Obj) (pn : List (Addr × Obj)) (c : Cls) (w : Str) (C : Addr), kd c = some w → X.mg c = some (.ref C) → Zc (.ref C) none oe → (∃ vs, oe.data = .fields vs) →
      ∃ t, PSs (X.suite a ((a, oe) :: pn)) (b₀ :: suite) t ∧ ∀ (D : Ends) (σ : L2.St) (H : Hp), σ[ie]? = some (some (.ref a)) → (∀ H', Same H H' → D.rt (.str w) H') → t D σ H)
    (hi : X.N[ie]? = some n := by rfl) (hln : X.env.kindOf n = some .local := by rfl) :
    FS X J W (.Try body [.ExceptHandler (some (.Name x np)) (some n) (b₀ :: suite) pos'] [] [] pos) (sTryR ie kd g) := by
  refine ⟨_, ps_try_as (tb := fun W' D σ H => ∀ pn xe (h1 : Takes (X.tr pn xe) W') (h2 : PassesOwn (model X.prog X.w) X.A X.env xe), (Classical.choose (hb W' pn xe h1 h2)) D σ H) (ts := tsR X.mg kd ie) (Wout := W) hs hf hN hi hln hc tk
    (fun W' pn xe h1 h2 => ⟨fun pins s σ H D I h => (Classical.choose_spec (hb W' pn xe h1 h2)).1.run pins s σ H D I (h pn xe h1 h2)⟩) (fun a oe cls d pn hz hfl => ⟨fun pins s σ H D I h => ?_⟩), fun σ H S fs D r fs' R e p pn xe h1 h2 => ?_⟩
  · obtain ⟨c, w, C, rfl, rfl, k1, k2, k3, k4⟩ := h
    obtain ⟨t, pt, et⟩ := hsu a oe pn c w C k1 k2 hz hfl
    exact pt.run pins s σ H D I (et D σ H k3 k4)
  · have sim := (Classical.choose_spec (hb _ pn xe h1 h2)).2
    unfold sTryR at e
    split at e
    · rename_i c fs1 q
      split at e
      · rename_i qn
        split at e
        · rename_i w qw
          cases e
          refine sim σ H S fs D _ fs' R q fun σ' H' S' R' gr C hC => ⟨true, he c w C qw hC, fun _ a ha => ?_, fun z => nomatch z⟩
          have hl : ie < σ'.length := by rw [R'.len]; exact (List.getElem?_eq_some_iff.mp qn).1
          refine ⟨c, w, C, rfl, rfl, qw, hC, List.getElem?_set_self hl, fun H2 s2 => ?_⟩
          have R2 := (R'.gone qn none).same s2
          exact p _ H2 S' R2 gr (.str w) (Rp.str w)
        · cases e
      · cases e
    · rename_i hne'
      refine sim σ H S fs D _ fs' R e fun σ' H' S' R' gr => ?_
      have z := p σ' H' S' R' gr
      cases r with
      | nx => exact z
      | bk => exact z
      | ct => exact z
      | ret fr d => exact z
      | ex c => exact absurd e (hne' c fs')
/-- the suite in short -/
theorem suiteK {p : Addr × Obj} {w : Str} {D : Ends} {σ : L2.St} {H : Hp} {ie iw : Nat} {E : L2.St → XK} (h : σ[ie]? = some (some (.ref p.1))) (q : ∀ H', Same H H' → D.nx (σ.set iw (some (.str w))) H') :
    (tAsg (tCallS (spK p.1 w) E (tCons (tVar ie) tNil)) (gName iw)) D σ H := ⟨_, h, rfl, fun H' s => q H' s⟩
theorem suiteR {p : Addr × Obj} {w : Str} {D : Ends} {σ : L2.St} {H : Hp} {ie : Nat} {E : L2.St → XK} (h : σ[ie]? = some (some (.ref p.1))) (q : ∀ H', Same H H' → D.rt (.str w) H') :
    (tRet (tCallS (spK p.1 w) E (tCons (tVar ie) tNil))) D σ H := ⟨_, h, rfl, fun H' s => q H' s⟩
/-- nothing leaves the call -/
theorem passE {X : Cx} (σ : L2.St) : PassesAt (L2.CX X.prog X.w) X σ (fun _ _ _ => False) := fun _ _ _ _ _ _ c => by
  obtain ⟨_, _, _, _, _, _, _, _, _, _, _, _, z⟩ := c
  exact z.elim
end
theorem roomHm {k : Nat} {A : Around} (r : Room k A) (h : Option Value) : L2H.RoomH k (A.mark h) := ⟨r.dp, r.un⟩
/-- a class's name -/
structure Cr (K : PySem.W.Frag) (mg : Str → Option Value) (x : Str) where
  C : Addr
  m : mg x = some (.ref C)
/-- a module's constant -/
def Gc (K : PySem.W.Frag) (mg : Str → Option Value) (x : Str) (d : D) : Prop := ∃ v u, mg x = some u ∧ RelV v u ∧ ∀ S, Rp K S v d
theorem fe_gc {X : Cx} {J : Inf} {W : WX} {x : Str} {d : D} {pos : Pos} (h : Gc X.K X.mg x d) (hg : Gl X x) (hd : (x == ("__debug__" : Str)) = false := by decide) : FE X J W (.Name x pos) (fVal d) := by
  obtain ⟨v, u, h1, h2, h3⟩ := h
  exact fe_glob hg h1 h2 h3 hd
theorem gc_tup {K : PySem.W.Frag} {mg : Str → Option Value} {x : Str} {a : Addr} {its : Array Value} {n : Nat} {sl : Array (Option Value)} {vs : List V} {ds : List D} (hm : mg x = some (.ref a)) (hk : K.lookup a = some ⟨.type "tuple", none, .seq its n, sl⟩) (hv : Vals vs its.toList) (hz : its.size ≤ sizeLine) (hr : ∀ S, Rps K S vs ds) : Gc K mg x (.tuple ds) :=
  ⟨.ref a, .ref a, hm, rfl, fun S => .tup (.inr ⟨_, its, n, hk, rfl, rfl, hz, hv⟩) (.inr ⟨_, hk, rfl⟩) (hr S)⟩
end Fx

namespace Fx
open PySem PySem.Spec PyProof.Rows L2
theorem gc_int {K : PySem.W.Frag} {mg : Str → Option Value} {x : Str} {i : Int} {t : Tok} (hm : mg x = some (.int i t)) : Gc K mg x (.int i) := ⟨.int i, .int i t, hm, ⟨t, rfl⟩, fun _ => .int i⟩
section
variable {X : Cx} {J : Inf} {W : WX} {tg e : Expr} {f g : M Rv} {p pos : Pos}
/-! reversed(..) of a list or a tuple -/
theorem it_rev {K : PySem.W.Frag} {S : Hp} {a : Addr} {xs : List V} {ds : List D} (h : SqL K S a xs) (r : Rps K S xs ds) : ItOk true K S (Itv K a xs.length) ds.reverse where
  go := fun i H S' hi s1 s2 => by
    rw [List.length_reverse] at hi
    have hl := r.length
    exact ⟨by omega, xs, xs[xs.length - 1 - i]'(by omega), L2.Same.seq (s1.trans s2) h, by simp⟩
  yld := fun i H S' x H' hi s1 s2 y => by
    rw [List.length_reverse] at hi
    have hl := r.length
    obtain ⟨e, y⟩ := y
    subst e
    obtain ⟨d, h1, h2⟩ := r.get' (y xs (L2.Same.seq (s1.trans s2) h))
    refine ⟨S', d, ?_, Stp.refl, s2, h2.mono s1⟩
    rw [List.getElem?_reverse (by omega), ← hl]
    exact h1
  stop := fun H S' s1 s2 => by
    rw [List.length_reverse, ← r.length]
    exact Nat.le_refl _
theorem it_revT {K : PySem.W.Frag} {S : Hp} {a : Addr} {xs : List V} {ds : List D} (h : SqT K S a xs) (r : Rps K S xs ds) : ItOk true K S (RT.ItvT K a xs.length) ds.reverse where
  go := fun i H S' hi s1 s2 => by
    rw [List.length_reverse] at hi
    have hl := r.length
    exact ⟨by omega, xs, xs[xs.length - 1 - i]'(by omega), Same.seqT (s1.trans s2) h, by simp⟩
  yld := fun i H S' x H' hi s1 s2 y => by
    rw [List.length_reverse] at hi
    have hl := r.length
    obtain ⟨e, y⟩ := y
    subst e
    obtain ⟨d, h1, h2⟩ := r.get' (y xs (Same.seqT (s1.trans s2) h))
    refine ⟨S', d, ?_, Stp.refl, s2, h2.mono s1⟩
    rw [List.getElem?_reverse (by omega), ← hl]
    exact h1
  stop := fun H S' s1 s2 => by
    rw [List.length_reverse, ← r.length]
    exact Nat.le_refl _
def asR : D → M (List D) := fun d fs => match d with
  | .list ds => some (.inr ds.reverse, fs)
  | .tuple ds => some (.inr ds.reverse, fs)
  | _ => none
def fiRev (f : M D) : M (List D) := bnd f asR
theorem fi_rev (hg : Gl X "reversed") (hm : X.mg "reversed" = none) (he : FE X J W e f) (hs : starEach [e] X.env = (false, eval e X.env) :: starEach [] X.env := by rfl) : FI X J W true tg (.Call (.Name "reversed" p) [e] [] pos) (fiRev (fD f)) := by
  obtain ⟨t, pe, s⟩ := he.d
  refine ⟨_, RT.pi_revA hg hm pe hs, fun σ H S fs Q res fs' R e p => ?_⟩
  refine s.bind R e p fun d fs1 v H1 S1 R1 r1 e1 p1 _ _ => ?_
  unfold asR at e1
  split at e1
  · cases e1
    cases r1 with
    | lst q r => exact ⟨_, _, rfl, .inl ⟨SqL.of (R1.sub _ _ q), p1.here R1 (it_rev (SqL.of q) r)⟩⟩
  · cases e1
    cases r1 with
    | tup q _ r => exact ⟨_, _, rfl, .inr ⟨Same.seqT R1.sub q, p1.here R1 (it_revT q r)⟩⟩
  · cases e1
/-! xs[::-1] of a list -/
def hRevL : D → Option Rv
  | .list ds => some (.fresh (.list ds.reverse))
  | _ => none
theorem fe_revL {k : Nat} {p1 p2 p3 : Pos} (he : FE X J W e f) : FE X J W (.Subscript e (.Slice none none (some (.UnaryOp .USub (.Constant (.int 1) k p1) p2)) p3) pos) (fUn hRevL f) := by
  obtain ⟨t, pe, s⟩ := he
  refine ⟨_, pe_revL pe, fun σ H S fs Q res fs' R e p => ?_⟩
  refine s.bind R e p fun rx fs1 x H1 S1 R1 r1 e1 p1 st1 sh1 => ?_
  unfold rd1 at e1
  split at e1
  · rename_i d q1
    split at e1
    · rename_i rv q3
      cases e1
      unfold hRevL at q3
      split at q3
      · cases q3
        obtain ⟨a, xs, rfl, qa, ra⟩ := (r1.rd R1 q1).lst
        exact ⟨a, xs, rfl, SqL.of qa, fun l hl => p1.toV.newL R1 ra.reverse hl⟩
      · cases q3
    · cases e1
  · cases e1
/-! ### dicts -/
def keyOf : D → Option Key
  | .int i => some (.inl i)
  | .str s => some (.inr s)
  | _ => none
def eqK (x : D) (k : Key) : Bool := match x, k with
  | .int i, .inl j => decide (i = j)
  | .str s, .inr t => decide (s = t)
  | _, _ => false
theorem eqK_key (k j : Key) : eqK (keyD k) j = decide (k = j) := by
  cases k <;> cases j <;> simp [eqK, keyD]
def dget (ds : List (D × D)) (k : Key) : Option D := (ds.find? fun p => eqK p.1 k).map (·.2)
def dput (ds : List (D × D)) (k : Key) (d : D) : List (D × D) := if (ds.any fun p => eqK p.1 k) = true then ds.map (fun p => if eqK p.1 k then (p.1, d) else p) else ds ++ [(keyD k, d)]
theorem Rpd.get {K : PySem.W.Frag} {S : Hp} {k : Key} {d : D} : ∀ {kvs : List (Key × V)} {ds : List (D × D)}, Rpd K S kvs ds → dget ds k = some d → ∃ v, valV kvs k = some v ∧ Rp K S v d
  | _, _, .nil, h => by simp [dget] at h
  | _, _, .cons (k := j) (v := v) r t, h => by
    unfold dget at h
    rw [List.find?_cons, eqK_key] at h
    by_cases e : j = k
    · rw [decide_eq_true e] at h
      refine ⟨v, valV_pos e, ?_⟩
      have e2 := Option.some.inj (show some _ = some d from h)
      rw [← e2]
      exact r
    · rw [decide_eq_false e] at h
      obtain ⟨u, h1, h2⟩ := Rpd.get t (show dget _ k = some d from h)
      exact ⟨u, by rw [valV_neg e]; exact h1, h2⟩
theorem Rpd.any {K : PySem.W.Frag} {S : Hp} {k : Key} : ∀ {kvs : List (Key × V)} {ds : List (D × D)}, Rpd K S kvs ds → (ds.any fun p => eqK p.1 k) = kvs.any fun kv => decide (kv.1 = k)
  | _, _, .nil => rfl
  | _, _, .cons r t => by rw [List.any_cons, List.any_cons, eqK_key, Rpd.any t]
theorem Rpd.repl {K : PySem.W.Frag} {S : Hp} {k : Key} {v : V} {d : D} (r0 : Rp K S v d) : ∀ {kvs : List (Key × V)} {ds : List (D × D)}, Rpd K S kvs ds → Rpd K S (kvs.map fun kv => if kv.1 = k then (kv.1, v) else kv) (ds.map fun p => if eqK p.1 k then (p.1, d) else p)
  | _, _, .nil => .nil
  | _, _, .cons (k := j) r t => by
    rw [List.map_cons, List.map_cons]
    by_cases e : j = k
    · rw [if_pos e, if_pos (by rw [eqK_key]; exact decide_eq_true e)]
      exact .cons r0 (Rpd.repl r0 t)
    · rw [if_neg e, if_neg (by rw [eqK_key, decide_eq_false e]; exact Bool.false_ne_true)]
      exact .cons r (Rpd.repl r0 t)
theorem Rpd.append {K : PySem.W.Frag} {S : Hp} : ∀ {a b : List (Key × V)} {c d : List (D × D)}, Rpd K S a c → Rpd K S b d → Rpd K S (a ++ b) (c ++ d)
  | _, _, _, _, .nil, s => s
  | _, _, _, _, .cons r t, s => .cons r (Rpd.append t s)
theorem Rpd.put {K : PySem.W.Frag} {S : Hp} {k : Key} {v : V} {d : D} (r0 : Rp K S v d) {kvs : List (Key × V)} {ds : List (D × D)} (r : Rpd K S kvs ds) : Rpd K S (putK kvs k v) (dput ds k d) := by
  unfold putK dput
  rw [r.any]
  split
  · exact r.repl r0
  · exact r.append (.cons r0 .nil)
theorem Rpd.length {K : PySem.W.Frag} {S : Hp} : ∀ {kvs : List (Key × V)} {ds : List (D × D)}, Rpd K S kvs ds → kvs.length = ds.length
  | _, _, .nil => rfl
  | _, _, .cons _ t => by rw [List.length_cons, List.length_cons, Rpd.length t]
theorem rp_key {K : PySem.W.Frag} {S : Hp} {v : V} {d : D} {k : Key} (r : Rp K S v d) (h : keyOf d = some k) : v = kV k ∧ d = keyD k := by
  cases r <;> simp [keyOf] at h <;> subst h <;> exact ⟨rfl, rfl⟩
theorem rpb_key {K : PySem.W.Frag} {S H : Hp} {v : V} {d : D} {k : Key} (r : RpB K S H v d) (h : keyOf d = some k) : v = kV k := by
  cases d <;> simp [keyOf] at h <;> subst h
  · exact r.int
  · exact r.str
/-- d[k] -/
def hDg : D → D → Option Rv
  | .dict ds, e => match keyOf e with
    | some k => (dget ds k).map .val
    | none => none
  | _, _ => none
def rDG : R2 := fun x y H Q => ∃ a v, x = .ref a ∧ DGet H a y (some v) ∧ Q v H
theorem op2_dg : Op2 X rDG hDg := by
  intro J σ fs H S x y d e rv Q R rx ry h p
  unfold hDg at h
  split at h
  · rename_i ds
    split at h
    · rename_i k hk
      obtain ⟨d', hd, rfl⟩ := Option.map_eq_some_iff.mp h
      rcases rx with ⟨a, kvs, rfl, ha, ra⟩ | ⟨a, xs, es, rfl, e1, _⟩
      · obtain ⟨v, h1, h2⟩ := ra.get hd
        refine ⟨a, v, rfl, ?_, p.here R h2⟩
        rw [rpb_key ry hk, ← h1]
        exact DGet.k ha
      · exfalso
        subst e1
        simp [dget, eqK] at hd
    · cases h
  · cases h
theorem fe_dget {i : Expr} (hu : X.A.units + 1 < cLine) (ha : FE X J W e f) (hb : FE X J W i g) (hs : NoSl i := by intro _ _; rfl) : FE X J W (.Subscript e i pos) (fBin hDg f g) := by
  obtain ⟨ta, pa, sa⟩ := ha
  obtain ⟨tb, pb, sb⟩ := hb
  exact ⟨tOp rDG ta tb, pe_dget hu pa pb hs, sim_op2 op2_dg sa sb⟩
/-- {} -/
def fDnew : M Rv := fun fs => some (.inr (.fresh (.dict [])), fs)
theorem fe_dnew : FE X J W (.Dict [] [] pos) fDnew := by
  refine ⟨_, pe_dnewK, fun σ H S fs Q res fs' R e p => ?_⟩
  cases e
  intro l hl
  have st := stp_newH (S := S) (o := .dK []) hl
  refine p _ S (R.grown st (same_newH hl R.sub)) (st.weak (fun _ z => z.elim) fun _ z => z.elim) (Shr.refl _) _ ⟨l, rfl, ⟨[], upd_same, .nil⟩, ?_, hl, fun z => ?_⟩
  · cases q : S l with
    | none => rfl
    | some o => rw [R.sub _ _ q] at hl; cases hl
  · obtain ⟨o, q⟩ := R.wn_live z
    rw [hl] at q; cases q
/-- d[k] = v, d an own dict -/
def sDput (i : Nat) (fv fk : M Rv) : SM := bndS (fD fv) fun d => fun fs => match fs[i]? with
  | some (.own _ (.dict _)) => bndS fk (fun kx => fun fs => match kx.rd fs with
    | some kd => match keyOf kd with
      | some k => match fs[i]? with
        | some (.own n (.dict ds)) => if ds.length < sizeLine then some (.nx, fs.set i (.own n (.dict (dput ds k d)))) else none
        | _ => none
      | none => none
    | none => none) fs
  | _ => none
theorem fs_dput {i : Nat} {x : Str} {ek ev : Expr} {fv fk : M Rv} {p1 p2 : Pos} (hu : X.A.units + 1 < cLine) (he : FE X J W ev fv) (hk : FE X J W ek fk)
    (hN : X.N[i]? = some x := by rfl) (hv : Vis X.env.scope x := by first | exact Or.inl rfl | exact Or.inr (Or.inl rfl) | exact Or.inr (Or.inr rfl)) (hd : (x == ("__debug__" : Str)) = false := by decide) (hcd : (x == ("__classdict__" : Str)) = false := by decide)
    (hs : swapsWith ev (some (.Subscript (.Name x p1) ek p2)) pos.line X.env = pure false := by rfl) :
    FS X J W (.Assign [.Subscript (.Name x p1) ek p2] ev pos) (sDput i fv fk) := by
  obtain ⟨t, pe, s⟩ := he
  obtain ⟨u, pk, s'⟩ := hk
  refine ⟨_, ps_dput hu (pe_var hN hv hd hcd) pk pe hs, fun σ H S fs D r fs' R e p => ?_⟩
  refine (s.fz).bindS R e p fun d fs1 v H1 S1 R1 r1 e1 p1 st1 sh1 => ?_
  try dsimp only at e1
  split at e1
  · rename_i n0 ds0 q0
    obtain ⟨a, w1, _⟩ := R1.own i n0 _ q0
    refine ⟨_, w1, ?_⟩
    refine s'.bindS R1 e1 p1 fun kx fs2 y H2 S2 R2 r2 e2 p2 st2 sh2 => ?_
    try dsimp only at e2
    split at e2
    · rename_i kd qk
      split at e2
      · rename_i k hk
        split at e2
        · rename_i n ds q
          split at e2
          · rename_i hz
            cases e2
            obtain ⟨a', y1, y2, y3, _⟩ := R2.own i n _ q
            rw [w1] at y1
            cases y1
            obtain ⟨kvs, z1, z2⟩ := y2
            have ek := rpb_key (r2.rd R2 qk) hk
            subst ek
            obtain ⟨R3, st3, sh3⟩ := R2.upd (o := .dK (putK kvs k v)) (d' := .dict (dput ds k d)) q w1 ⟨_, upd_same, z2.put (r1.mono st2.grow)⟩
            exact ⟨a, _, rfl, DPut.k z1 (by rw [z2.length]; exact hz), p2 _ _ S2 R3 (Same.refl _)⟩
          · cases e2
        · cases e2
      · cases e2
    · cases e2
  · cases e1
/-- dict(pairs) -/
def pairsD : List D → Option (List (Key × D))
  | [] => some []
  | .tuple [k, d] :: r => match keyOf k, pairsD r with
    | some k, some m => some ((k, d) :: m)
    | _, _ => none
  | _ :: _ => none
def mrgD : List (D × D) → List (Key × D) → List (D × D)
  | ds, [] => ds
  | ds, (k, d) :: m => mrgD (dput ds k d) m
def hDict : List D → Option Rv
  | [.list ds] => match pairsD ds with
    | some m => some (.fresh (.dict (mrgD [] m)))
    | none => none
  | _ => none
theorem Room.d1 {k : Nat} {A : Around} (r : Room k A) : A.units + 1 < cLine := by have := r.un; omega
theorem Room.d4 {k : Nat} {A : Around} (r : Room k A) : A.units + 3 + 1 < cLine := by have := r.un; omega
theorem Room.u68 {k : Nat} {A : Around} (r : Room k A) : A.units + 3 + 65 < cLine := by have := r.un; omega
end
end Fx

namespace Fx
open PySem PySem.Spec PyProof.Rows L2
section
variable {X : Cx} {J : Inf} {W : WX} {tg e : Expr} {f g : M Rv} {p pos : Pos}
theorem pairs_rp {K : PySem.W.Frag} {S : Hp} : ∀ {ds : List D} {m : List (Key × D)} {xs : List V}, pairsD ds = some m → Rps K S xs ds → ∃ (ps : List Addr) (kvs : List (Key × V)), xs = ps.map V.ref ∧ Paired (fun p kv => SqT K S p [kV kv.1, kv.2]) ps kvs ∧ Rpd K S kvs (m.map fun q => (keyD q.1, q.2)) := by
  intro ds
  induction ds with
  | nil => intro m xs h r; cases r; cases h; exact ⟨[], [], rfl, .nil, .nil⟩
  | cons d ds ih =>
    intro m xs h r
    unfold pairsD at h
    split at h
    · rename_i heq
      cases heq
    · rename_i k d' r' heq
      cases heq
      split at h
      · rename_i k' m' hk hm
        cases h
        cases r with
        | cons r1 rt =>
        cases r1 with
        | tup q _ rr =>
        cases rr with
        | cons ra rb =>
        cases rb with
        | cons rb rn =>
        cases rn
        obtain ⟨ps, kvs, e1, e2, e3⟩ := ih hm rt
        obtain ⟨ea, eb⟩ := rp_key ra hk
        subst ea
        exact ⟨_ :: ps, (k', _) :: kvs, by rw [e1]; rfl, .cons q e2, .cons rb e3⟩
      · cases h
    · cases h
theorem Rpd.merge {K : PySem.W.Frag} {S : Hp} : ∀ {m : List (Key × D)} {kvs acc : List (Key × V)} {ds : List (D × D)}, Rpd K S acc ds → Rpd K S kvs (m.map fun q => (keyD q.1, q.2)) → Rpd K S (mergeK acc kvs) (mrgD ds m) := by
  intro m
  induction m with
  | nil => intro kvs acc ds a b; cases b; exact a
  | cons q m ih =>
    intro kvs acc ds a b
    obtain ⟨k, d⟩ := q
    cases kvs with
    | nil => cases b
    | cons kv kvs =>
      obtain ⟨k2, v⟩ := kv
      have b1 : Rpd K S ((k2, v) :: kvs) ((keyD k, d) :: m.map fun q => (keyD q.1, q.2)) := b
      generalize hkd : keyD k = kd at b1
      cases b1 with
      | cons r t =>
        have : k = k2 := by
          cases k <;> cases k2 <;> simp [keyD] at hkd <;> first | (subst hkd; rfl) | skip
        subst this
        exact ih (acc := putK acc _ _) (kvs := kvs) (Rpd.put r a) t
theorem opn_dict : OpN X (fun xs H Q => ∃ (a : Addr) (ps : List Addr) (kvs : List (Key × V)), xs = [.ref a] ∧ SqL X.K H a (ps.map V.ref) ∧ Paired (fun p kv => SqT X.K H p [kV kv.1, kv.2]) ps kvs ∧
    ∀ p, H p = none → Q (.ref p) (upd H p (.dK (mergeK [] kvs)))) hDict := by
  intro J σ fs H S xs ds rv Q R r h p
  unfold hDict at h
  split at h
  · split at h
    · rename_i m hm
      cases h
      obtain ⟨v, rfl, ry⟩ := r.one
      obtain ⟨a, xs, rfl, qa, ra⟩ := ry.lst
      obtain ⟨ps, kvs, rfl, e2, e3⟩ := pairs_rp hm ra
      refine ⟨a, ps, kvs, rfl, SqL.of qa, ?_, fun l hl => ?_⟩
      · clear e3 ra qa
        induction e2 with
        | nil => exact .nil
        | cons x t ih => exact .cons (Same.seqT R.sub x) ih
      · have st := stp_newH (S := S) (o := .dK (mergeK [] kvs)) hl
        refine p _ _ (R.grown st (same_newH hl R.sub)) st _ ⟨l, rfl, ⟨_, upd_same, Rpd.merge .nil e3⟩, ?_, hl, fun z => ?_⟩
        · cases e : S l with
          | none => rfl
          | some o => rw [R.sub _ _ e] at hl; cases hl
        · obtain ⟨o, e⟩ := R.wn_live z
          rw [hl] at e; cases e
    · cases h
  · cases h
end
end Fx

namespace Fx
open PySem PySem.Spec PyProof.Rows L2
def hZipL : List D → Option Rv
  | [.tuple a, .list b] => bif decide (a.length = b.length) && decide (0 < a.length) && decide (a.length ≤ 16777216) then some (.fresh (.list (zipD a b))) else none
  | _ => none
def fZipL (f : M (List D)) : M Rv := bnd f fun ds fs => match hZipL ds with
  | some rv => some (.inr rv, fs)
  | none => none
section
variable {X : Cx} {J : Inf} {W : WX}
theorem rps_laid {K : PySem.W.Frag} {S S' : Hp} : ∀ {ts : List Addr} {xs ys : List V} {ds es : List D}, Rps K S xs ds → Rps K S ys es → Same S S' → ts.length = xs.length → xs.length = ys.length →
    (∀ (j : Nat) (t : Addr), ts[j]? = some t → ∃ o x y, xs[j]? = some x ∧ ys[j]? = some y ∧ o.dict = none ∧ S' t = some (.frz o (.tup [x, y]))) → Rps K S' (ts.map V.ref) (zipD ds es)
  | [], [], [], _, _, .nil, .nil, _, _, _, _ => .nil
  | t :: ts, x :: xs, y :: ys, _, _, .cons r1 t1, .cons r2 t2, g, h1, h2, h => by
    obtain ⟨o, x', y', e1, e2, hd, e3⟩ := h 0 t rfl
    cases e1
    cases e2
    refine .cons (.tup (.inl (.inr ⟨o, e3⟩)) (.inl ⟨o, _, e3, hd⟩) (.cons (r1.mono g) (.cons (r2.mono g) .nil))) (rps_laid t1 t2 g (by simpa using h1) (by simpa using h2) fun j t' ht => ?_)
    simpa using h (j + 1) t' (by simpa using ht)
theorem laid_run {σ : St} {fs : Fs} {H S H' : Hp} {xs ys : List V} {ds es : List D} {l : Addr} {ts : List Addr} {Q : VK} (R : Rel X.K J σ H S fs) (r1 : Rps X.K S xs ds) (r2 : Rps X.K S ys es) (hl : xs.length = ys.length) (L : ZL.Laid xs ys l ts H H') (p : PostV X J σ fs H S (.fresh (.list (zipD ds es))) Q) : Q (.ref l) H' := by
  let S' : Hp := fun b => if b ∈ ts then H' b else S b
  have hS' : ∀ t ∈ ts, S' t = H' t := fun t ht => if_pos ht
  have hT : ∀ t ∈ ts, H t = none ∧ ∃ u, H' t = some u := fun t ht => by
    obtain ⟨j, hj⟩ := List.mem_iff_getElem?.mp ht
    obtain ⟨h1, o, x, y, _, _, _, h2⟩ := L.pair j t hj
    exact ⟨h1, _, h2⟩
  have hup : ∀ a o, H a = some o → H' a = some o := fun a o e => by
    rw [L.rest a (fun q => by rw [q, L.ln] at e; cases e) (fun q => by rw [(hT a q).1] at e; cases e)]
    exact e
  have hgr : Same S S' := fun a u e => by
    have : a ∉ ts := fun q => by have := R.sub _ _ e; rw [(hT a q).1] at this; cases this
    show (if a ∈ ts then _ else _) = _
    rw [if_neg this]; exact e
  have hsub : Same S' H' := fun a u e => by
    by_cases q : a ∈ ts
    · rw [hS' a q] at e; exact e
    · have e' : S a = some u := by
        have : S' a = S a := if_neg q
        rw [this] at e; exact e
      exact hup a u (R.sub _ _ e')
  have st : Stp (fun _ => False) (fun _ => False) H S H' S' := ⟨fun a o e _ => hup a o e, hgr, fun a h => by
    by_cases q : a ∈ ts
    · exact .inr (.inl (hT a q).1)
    · refine .inl ?_
      have : S' a = S a := if_neg q
      rw [this] at h; exact h, fun a h => by
    cases e : H a with
    | none => exact absurd e h
    | some o => rw [hup a o e]; simp⟩
  refine p H' S' (R.grown st hsub) st _ ⟨l, rfl, ⟨_, L.lt, rps_laid r1 r2 hgr L.len hl fun j t ht => ?_⟩, ?_, L.ln, fun z => ?_⟩
  · obtain ⟨_, o, x, y, e1, e2, hd, h2⟩ := L.pair j t ht
    exact ⟨o, x, y, e1, e2, hd, by rw [hS' t (List.mem_of_getElem? ht)]; exact h2⟩
  · have : S' l = S l := if_neg L.ne
    rw [this]
    cases e : S l with
    | none => rfl
    | some o => have := R.sub _ _ e; rw [L.ln] at this; cases this
  · obtain ⟨o, e⟩ := R.wn_live z
    rw [L.ln] at e; cases e
theorem fe_listZip {e e2 : Expr} {gs : M (List D)} {p p2 pos pos2 : Pos} (hc : X.calm = true) (hg : Gl X "list") (hm : X.mg "list" = none) (hg2 : Gl X "zip") (hm2 : X.mg "zip" = none) (ha : FDs X J W [e, e2] gs)
    (hs : starEach [e, e2] X.env = (false, eval e X.env) :: starEach [e2] X.env := by rfl) (hpl : (backTo pos2 (starEach [e2] X.env)).any (·.1) = false := by rfl)
    (na : starEach [.Call (.Name "zip" p2) [e, e2] [] pos2] X.env = (false, eval (.Call (.Name "zip" p2) [e, e2] [] pos2) X.env) :: starEach [] X.env := by rfl) :
    FE X J W (.Call (.Name "list" p) [.Call (.Name "zip" p2) [e, e2] [] pos2] [] pos) (fZipL gs) := by
  obtain ⟨t, pa, s⟩ := ha
  refine ⟨_, ZL.pe_listZip hc hg hm hg2 hm2 pa hs hpl na, fun σ H S fs Q res fs' R e p => ?_⟩
  refine s.bind R e p fun ds fs1 vs H1 S1 R1 r1 e1 p1 _ _ => ?_
  try dsimp only at e1
  unfold hZipL at e1
  split at e1
  · rename_i rv q
    cases e1
    split at q
    · rename_i a b
      cases c : (decide (a.length = b.length) && decide (0 < a.length) && decide (a.length ≤ 16777216)) with
      | false => rw [c] at q; cases q
      | true =>
        rw [c] at q
        cases q
        simp only [Bool.and_eq_true, decide_eq_true_eq] at c
        cases r1 with
        | cons q1 r1 =>
        cases r1 with
        | cons q2 r1 =>
        cases r1
        cases q1 with
        | tup z1 _ z2 =>
        cases q2 with
        | lst z3 z4 =>
          have l1 := z2.length
          have l2 := z4.length
          exact ⟨_, _, _, _, rfl, Same.seqT R1.sub z1, SqL.of (R1.sub _ _ z3), by omega, by omega, by omega, fun l ts H' L => laid_run R1 z2 z4 (by omega) L p1.toV⟩
    · cases q
  · cases e1
end
end Fx

namespace Fx
open PySem PySem.Spec PyProof.Rows L2
section
variable {X : Cx} {J : Inf} {W : WX}
theorem it_enumT {K : PySem.W.Frag} {S : Hp} {a : Addr} {xs : List V} {ds : List D} (h : SqT K S a xs) (r : Rps K S xs ds) : ItOk false K S (EZ.IteT K a) (enumD 0 ds) where
  go := fun i H S' hi s1 s2 => by
    rw [enumD_length] at hi
    exact ⟨xs, xs[i]'(by rw [r.length]; exact hi), Same.seqT (s1.trans s2) h, by simp⟩
  yld := fun i H S' x H' hi s1 s2 y => by
    obtain ⟨T, u, rfl, hT, rfl, q1⟩ := y
    obtain ⟨d, h3, h4⟩ := r.get' (q1 xs (Same.seqT (s1.trans s2) h))
    refine ⟨_, _, enumD_get h3, stp_newS (o := .tup [.int (i : Nat), u]) hT s2, same_newS hT s2, ?_⟩
    rw [Nat.zero_add]
    exact rpk_pair s2 hT (Rp.int _) (h4.mono s1)
  stop := fun H S' s1 s2 => by
    refine ⟨xs, Same.seqT (s1.trans s2) h, ?_⟩
    rw [enumD_length, r.length]
    exact Nat.le_refl _
def fiEnumA (f : M (List D)) : M (List D) := bnd f fun ds fs => match ds with
  | [.list a] => some (.inr (enumD 0 a), fs)
  | [.tuple a] => some (.inr (enumD 0 a), fs)
  | _ => none
theorem fi_enumA {e : Expr} {gs : M (List D)} {elts : List Expr} {kk : Nat} {tpos p pos : Pos} (hg : Gl X "enumerate") (hm : X.mg "enumerate" = none) (ha : FDs X J W [e] gs)
    (hs : starEach [e] X.env = [(false, eval e X.env)] := by rfl) :
    FI X J W false (.Tuple elts kk tpos) (.Call (.Name "enumerate" p) [e] [] pos) (fiEnumA gs) := by
  obtain ⟨t, pa, s⟩ := ha
  refine ⟨_, EZ.pi_enA hg hm pa hs, fun σ H S fs Q res fs' R e p => ?_⟩
  refine s.bind R e p fun ds fs1 vs H1 S1 R1 r1 e1 p1 _ _ => ?_
  try dsimp only at e1
  split at e1
  · cases e1
    cases r1 with
    | cons q1 r1 =>
      cases r1
      cases q1 with
      | lst z1 z2 => exact ⟨_, _, rfl, .inl ⟨SqL.of (R1.sub _ _ z1), p1.here R1 (it_enum (SqL.of z1) z2)⟩⟩
  · cases e1
    cases r1 with
    | cons q1 r1 =>
      cases r1
      cases q1 with
      | tup z1 _ z2 => exact ⟨_, _, rfl, .inr ⟨Same.seqT R1.sub z1, p1.here R1 (it_enumT z1 z2)⟩⟩
  · cases e1
end
end Fx

namespace Fx
open PySem PySem.Spec PyProof.Rows L2
/-! a truth that only looks: what is owned stays owned -/
def Sl.fzS : Sl → Sl
  | .own _ d => .dat d
  | s => s
def Sl.nb : Sl → Bool
  | .own (_ + 1) _ => false
  | _ => true
def fRO (f : M Rv) : M Rv := fun fs => bif fs.all Sl.nb then (match f (fs.map Sl.fzS) with
  | some (.inr (.val (.bool b)), _) => some (.inr (.val (.bool b)), fs)
  | _ => none) else none
theorem fRO_of {f : M Rv} {fs fs1 : Fs} {b : Bool} (h : fs.all Sl.nb = true) (e : f (fs.map Sl.fzS) = some (.inr (.val (.bool b)), fs1)) : fRO f fs = some (.inr (.val (.bool b)), fs) := by
  unfold fRO
  rw [h, cond_true, e]
section
variable {K : PySem.W.Frag} {J : Inf} {mg : Str → Option Value} {W : WX}
theorem own_rp' {S S' H : Hp} {p : Addr} {d : D} {o : HO} (h : OwnAt K S H p d) (e : H p = some o) (hs : S' p = some o) (g : Same S S') : Rp K S' (.ref p) d := by
  cases d with
  | list ds =>
    obtain ⟨xs, e', r⟩ := h
    rw [e] at e'; cases e'
    exact .lst hs (r.mono g)
  | dict ds =>
    obtain ⟨xs, e', r⟩ := h
    rw [e] at e'; cases e'
    exact .dct hs (r.mono g)
  | _ => exact False.elim h
open Classical in
theorem sim_ro {t : TE} {f : M Rv} (s : Sim K J mg W t (rV K) f) : Sim K J mg W t (rV K) (fRO f) := by
  intro σ H S fs Q res fs' R e p
  unfold fRO at e
  cases hb : fs.all Sl.nb with
  | false => rw [hb] at e; cases e
  | true =>
    rw [hb, cond_true] at e
    split at e
    · rename_i b fs2 q
      cases e
      let S1 : Hp := fun a => if Wn σ fs a then H a else S a
      have hw0 : ∀ a, Wn σ fs a → Wz σ fs a := by
        rintro a ⟨i, n, d, h1, h2⟩
        have := List.all_eq_true.mp hb _ (List.mem_of_getElem? h1)
        cases n with
        | zero => exact ⟨i, d, h1, h2⟩
        | succ n => exact absurd this (by simp [Sl.nb])
      have hgr : Same S S1 := fun a u e => by
        have hn : ¬ Wn σ fs a := fun w => by rw [R.wn_out w] at e; cases e
        show (if Wn σ fs a then H a else S a) = _
        rw [if_neg hn]; exact e
      have hsub : Same S1 H := fun a u e => by
        by_cases w : Wn σ fs a
        · have : S1 a = H a := if_pos w
          rw [this] at e; exact e
        · have : S1 a = S a := if_neg w
          rw [this] at e; exact R.sub _ _ e
      have hget : ∀ i : Nat, (fs.map Sl.fzS)[i]? = (fs[i]?).map Sl.fzS := fun i => List.getElem?_map ..
      have noown : ∀ (i n : Nat) (d : D), (fs.map Sl.fzS)[i]? ≠ some (.own n d) := fun i n d e => by
        rw [hget] at e
        obtain ⟨x, _, hx⟩ := Option.map_eq_some_iff.mp e
        cases x <;> simp [Sl.fzS] at hx
      have R1 : Rel K J σ H S1 (fs.map Sl.fzS) := by
        refine ⟨hsub, by rw [List.length_map]; exact R.len, fun i d e => ?_, fun i n d e => absurd e (noown i n d), fun i j n m d e' p h1 => absurd h1 (noown i n d), R.keep0, R.grow0.trans hgr, fun a h => ?_, R.live0, R.bwl⟩
        · rw [hget] at e
          obtain ⟨x, hx, ex⟩ := Option.map_eq_some_iff.mp e
          cases x with
          | no => simp [Sl.fzS] at ex
          | dat d' =>
            have : d' = d := by simpa [Sl.fzS] using ex
            subst this
            obtain ⟨v, h1, h2⟩ := R.dat i d' hx
            exact ⟨v, h1, h2.mono hgr⟩
          | own n d' =>
            have : d' = d := by simpa [Sl.fzS] using ex
            subst this
            obtain ⟨p, h1, h2, h3, h4⟩ := R.own i n d' hx
            obtain ⟨o, ho⟩ := h2.live
            have w : Wn σ fs p := ⟨i, n, d', hx, h1⟩
            exact ⟨_, h1, own_rp' h2 ho (show S1 p = some o by rw [show S1 p = H p from if_pos w]; exact ho) hgr⟩
        · by_cases w : Wn σ fs a
          · obtain ⟨i, d, h1, h2⟩ := hw0 a w
            obtain ⟨p, q1, _, _, q4⟩ := R.own i 0 d h1
            rw [h2] at q1
            cases q1
            exact .inr q4
          · have : S1 a = S a := if_neg w
            rw [this] at h
            exact R.new0 a h
      refine s σ H S1 (fs.map Sl.fzS) Q _ fs2 R1 q fun H' S' R2 st sh v rv => ?_
      have rb : Rp K S' v (.bool b) := rv
      cases rb
      have hup : ∀ a o, H a = some o → H' a = some o := fun a o e => st.keep a o e fun ⟨i, n, d, h1, _⟩ => noown i n d h1
      have st' : Stp (fun _ => False) (fun _ => False) H S H' S := ⟨fun a o e _ => hup a o e, Same.refl _, fun a h => .inl h, st.live⟩
      have sub' : Same S H' := fun a u e => hup a u (R.sub _ _ e)
      exact p H' S (R.grown st' sub') (st'.weak (fun _ z => z.elim) fun _ z => z.elim) (Shr.refl _) _ (show RvR K σ fs H H' S (.bl b) (.val (.bool b)) from Rp.bl b)
    · cases e
variable {X : Cx} {e : Expr} {f : M Rv}
theorem fe_ro (h : FE X J W e f) : FE X J W e (fRO f) := let ⟨t, p, s⟩ := h; ⟨t, p, sim_ro s⟩
end
end Fx

namespace Fx
open PySem PySem.Spec PyProof.Rows L2
/-! ### a told tuple whose first item is a list made by the def; it may be put on to -/
def NewHd (K : PySem.W.Frag) (H0 S : Hp) (v : V) : Prop := ∃ (a p : Addr) (xs ys : List V), v = .ref a ∧ SqT K S a (.ref p :: xs) ∧ H0 p = none ∧ S p = some (.lst ys) ∧ ys.length < sizeLine
def PostN (K : PySem.W.Frag) (J : Inf) (mg : Str → Option Value) (W : WX) (D : Ends) (S : Hp) (r : Fl) (fs' : Fs) : Prop :=
  ∀ σ' H' S', Rel K J σ' H' S' fs' → Same S S' → match r with
    | .ret false d => ∀ v, Rp K S' v d → NewHd K J.H0 S' v → D.rt v H'
    | .ex c => ∀ C, mg c = some (.ref C) → W (.ref C) none σ' H'
    | _ => False
def SimN (K : PySem.W.Frag) (J : Inf) (mg : Str → Option Value) (W : WX) (t : TS) (g : SM) : Prop :=
  ∀ (σ : St) (H S : Hp) (fs : Fs) (D : Ends) (r : Fl) (fs' : Fs), Rel K J σ H S fs → g fs = some (r, fs') → PostN K J mg W D S r fs' → t D σ H
def FsN (X : Cx) (J : Inf) (W : WX) (st : List Stmt) (g : SM) : Prop := ∃ t, PSs X st t ∧ SimN X.K J X.mg W t g
def sConsN (g h : SM) : SM := fun fs => match g fs with
  | some (.nx, fs1) => h fs1
  | some (.ex c, fs1) => some (.ex c, fs1)
  | _ => none
def sRetP (i j : Nat) : SM := fun fs => match fs[i]?, fs[j]? with
  | some (.own 0 (.list ds)), some (.dat d) => if ds.length < sizeLine then some (.ret false (.tuple [.list ds, d]), fs.set i .no) else none
  | _, _ => none
section
variable {X : Cx} {J : Inf} {W : WX} {st : Stmt} {rest : List Stmt} {g h : SM} {pos : Pos}
theorem fsn_cons (h1 : FS X J W st g) (h2 : FsN X J W rest h) : FsN X J W (st :: rest) (sConsN g h) := by
  obtain ⟨t, pt, s1⟩ := h1
  obtain ⟨u, pu, s2⟩ := h2
  refine ⟨_, pss_cons pt pu, fun σ H S fs D r fs' R e p => ?_⟩
  unfold sConsN at e
  split at e
  · rename_i fs1 q
    exact s1 σ H S fs _ _ _ R q fun σ' H' S' R' gr => s2 σ' H' S' fs1 D r fs' R' e fun σ2 H2 S2 R2 g2 => p σ2 H2 S2 R2 (gr.trans g2)
  · rename_i c fs1 q
    cases e
    exact s1 σ H S fs _ _ _ R q fun σ' H' S' R' gr => p σ' H' S' R' gr
  · cases e
theorem fsn_ret (i j : Nat) {x y : Str} {px py tp : Pos} {k : Nat} (hx : X.N[i]? = some x := by rfl) (hy : X.N[j]? = some y := by rfl)
    (vx : Vis X.env.scope x := by first | exact Or.inl rfl | exact Or.inr (Or.inl rfl) | exact Or.inr (Or.inr rfl)) (vy : Vis X.env.scope y := by first | exact Or.inl rfl | exact Or.inr (Or.inl rfl) | exact Or.inr (Or.inr rfl))
    (dx : (x == ("__debug__" : Str)) = false := by decide) (dy : (y == ("__debug__" : Str)) = false := by decide) (cx : (x == ("__classdict__" : Str)) = false := by decide) (cy : (y == ("__classdict__" : Str)) = false := by decide)
    (s1 : starEach [.Name x px, .Name y py] X.env = (false, eval (.Name x px) X.env) :: starEach [.Name y py] X.env := by rfl) (s2 : starEach [.Name y py] X.env = (false, eval (.Name y py) X.env) :: starEach [] X.env := by rfl) :
    FsN X J W [.Return (some (.Tuple [.Name x px, .Name y py] k tp)) pos] (sRetP i j) := by
  refine ⟨_, pss_one (ps_ret (pe_tupF (pa_cons (pe_var hx vx dx cx) (pa_cons (pe_var hy vy dy cy) pa_nil s2) s1))), fun σ H S fs D r fs' R e p => ?_⟩
  unfold sRetP at e
  split at e
  · rename_i ds d qi qj
    split at e
    · rename_i hz
      cases e
      obtain ⟨p0, h1, ⟨xs, h2, rxs⟩, h3, h4⟩ := R.own i 0 _ qi
      obtain ⟨v2, h5, h6⟩ := R.dat j d qj
      have hnp : J.H0 p0 = none := h4
      have ef : (Rv.slot i).fz fs = some (PyData.list ds, fs.set i (.dat (.list ds))) := by simp only [Rv.fz, qi]
      obtain ⟨S1, R1, st1, sh1, r1, st2⟩ := RvR.fz (v := .ref p0) (rv := .slot i) R (show RvR X.K σ fs H H S (.ref p0) (.slot i) from h1) ef R Stp.refl (Shr.refl _)
      refine ⟨_, h1, _, h5, by show 2 ≤ sizeLine; rw [sizeLine_eq]; omega, fun l o hl hd => ?_⟩
      have R2 := R1.lose i
      rw [List.set_set] at R2
      have st3 := stp_newS (o := .frz o (.tup [.ref p0, v2])) hl R1.sub
      have R3 := R2.grown st3 (same_newS hl R1.sub)
      have hS1 : ∃ ys, S1 p0 = some (.lst ys) ∧ ys.length < sizeLine := by
        cases r1 with
        | lst q r => exact ⟨_, q, by rw [Rps.length r]; exact hz⟩
      obtain ⟨ys, hys, hyl⟩ := hS1
      have hne : p0 ≠ l := fun z => by rw [z, hl] at h2; cases h2
      exact p σ _ _ R3 (st1.grow.trans st3.grow) (.ref l) (rp_newT hd R1.sub (.cons r1 (.cons (h6.mono st1.grow) .nil)) hl) ⟨l, p0, [v2], ys, rfl, .inl (.inr ⟨o, upd_same⟩), hnp, by rw [upd_ne hne]; exact hys, hyl⟩
    · cases e
  · cases e
end
def mkFnN (k N : Nat) (g : SM) : Fn := fun as => if as.length = k then
    match g (as ++ List.replicate (N - k) .no) with
    | some (.ret false d, fs) => some (.inr (false, d), outs k 0 fs)
    | some (.ex c, fs) => some (.inl c, outs k 0 fs)
    | _ => none
  else none
def spN (K : PySem.W.Frag) (mg : Str → Option Value) (G : Fn) : Sp := fun vs H Q E => ∃ S as res outs, Same S H ∧ ArgR K S H vs as ∧ G as = some (res, outs) ∧
  ∀ H' S', Same S' H' → Stp (Bx vs as) (fun _ => False) H S H' S' → OutR K S' H' vs as outs → match res with
    | .inl c => ∀ C, mg c = some (.ref C) → E (.ref C) none H'
    | .inr (fr, d) => ∀ v, RetR K H S' H' v fr d → NewHd K H S' v → Q v H'
section
variable {P : Program} {w : World} {K : PySem.W.Frag} {mg : Str → Option Value} {base : Heap}
theorem fn_mkN {x qual : Str} {st : Stmt} {f : Addr} {fd : FuncData} {N ps : List Str} {k : Nat} {g : SM} (F : Fun K x qual st f fd) (Sc : FnScope N ps (defScope st))
    (hb : ∀ (cdv : Value) (A : Around) (outer : List Env) (s : Shared) (H : Hp) (E : XK) (J : Inf), Room k (A.deeper (envOfC qual (defScope st) s.heap.objs.size f cdv)) →
      FsN (cxOf (L2.CX P w) P w K mg base N qual (defScope st) f cdv A outer s H E) J (fun cls d _ H' => E cls d H') (defBody st) g) :
    FnOk P w K mg base (L2.CX P w) (k + 1) f fd ps (spN K mg (mkFnN ps.length N.length g)) := by
  have hpl : ps.length ≤ N.length := by have := congrArg List.length Sc.pre; rw [List.length_take] at this; omega
  have arg : ∀ {vs : List V} {as : List Sl} {S H : Hp} {r}, ArgR K S H vs as → mkFnN ps.length N.length g as = some r → vs.length = ps.length := fun {vs as S H r} A e => by
    unfold mkFnN at e
    split at e
    · rename_i hl; rw [A.len]; exact hl
    · cases e
  refine F.okX Sc (fun vs H Q E h => ?_) (fun cdv A outer s H vs Q E hr h => ?_)
  · obtain ⟨S, as, res, os, sub, AR, e, _⟩ := h
    exact arg AR e
  · obtain ⟨S, as, res, os, sub, AR, e, post⟩ := h
    have hl := arg AR e
    obtain ⟨t, pt, sim⟩ := hb cdv A outer s H E (infOf vs as H S) hr
    refine ⟨t, pt, ?_⟩
    have R := rel_start (N := N) sub AR (by rw [hl]; exact hpl)
    rw [hl] at R
    unfold mkFnN at e
    rw [if_pos (by rw [← AR.len]; exact hl)] at e
    have fin : ∀ {σ' : St} {H' S' : Hp} {fs' : Fs}, Rel K (infOf vs as H S) σ' H' S' fs' → Same S' H' ∧ Stp (Bx vs as) (fun _ => False) H S H' S' ∧ OutR K S' H' vs as (outs ps.length 0 fs') := fun {σ' H' S' fs'} R' => by
      refine ⟨R'.sub, ⟨fun a o q nb => R'.keep0 a o q fun z => nb (bw_bx z), R'.grow0, fun a q => (R'.new0 a q).imp id .inl, R'.live0⟩, fun i n d q => ?_⟩
      obtain ⟨q1, q2⟩ := outs_get q
      obtain ⟨p, z1, z2, z3, z4⟩ := R'.own i n d q1
      have en : n = i + 1 := by omega
      subst en
      have z4' : (match as[i]?, vs[i]? with
        | some (.own _ _), some (.ref p) => some p
        | _, _ => none) = some p := z4
      split at z4'
      · rename_i m e0 p' w1 w2
        cases z4'
        exact ⟨⟨m, e0, w1⟩, p, w2, z2, z3⟩
      · cases z4'
    split at e
    · rename_i d fs' q
      cases e
      refine sim _ H S _ _ (.ret false d) fs' R q fun σ' H' S' R' _ v r nv => ?_
      obtain ⟨f1, f2, f3⟩ := fin R'
      exact post H' S' f1 f2 f3 v r nv
    · rename_i c fs' q
      cases e
      refine sim _ H S _ _ (.ex c) fs' R q fun σ' H' S' R' _ C hC => ?_
      obtain ⟨f1, f2, f3⟩ := fin R'
      exact post H' S' f1 f2 f3 C hC
    · cases e
end
/-! ### what only looks -/
section
variable {K : PySem.W.Frag}
def Pure {α : Type} (f : M α) : Prop := ∀ fs r fs', f fs = some (.inr r, fs') → fs' = fs
theorem Pure.rt {α : Type} (a : α) : Pure (rt a) := fun fs r fs' e => by cases e; rfl
theorem Pure.bnd {α β : Type} {f : M α} {g : α → M β} (hf : Pure f) (hg : ∀ a, Pure (g a)) : Pure (bnd f g) := fun fs r fs' e => by
  unfold Fx.bnd at e
  split at e
  · cases e
  · cases e
  · rename_i a fs1 q
    have := hf _ _ _ q
    subst this
    exact hg a _ _ _ e
theorem Pure.var (i : Nat) : Pure (fVar i) := fun fs r fs' e => by
  unfold fVar at e
  split at e <;> first | (cases e; rfl) | cases e
theorem Pure.val (d : D) : Pure (fVal d) := fun fs r fs' e => by cases e; rfl
theorem Pure.rd2 (h : D → D → Option Rv) (x y : Rv) : Pure (rd2 h x y) := fun fs r fs' e => by
  unfold Fx.rd2 at e
  split at e
  · split at e
    · cases e; rfl
    · cases e
  · cases e
theorem Pure.rd1 (h : D → Option Rv) (x : Rv) : Pure (rd1 h x) := fun fs r fs' e => by
  unfold Fx.rd1 at e
  split at e
  · split at e
    · cases e; rfl
    · cases e
  · cases e
theorem Pure.bin {h : D → D → Option Rv} {f g : M Rv} (hf : Pure f) (hg : Pure g) : Pure (fBin h f g) := hf.bnd fun x => hg.bnd fun y => Pure.rd2 h x y
theorem Pure.un {h : D → Option Rv} {f : M Rv} (hf : Pure f) : Pure (fUn h f) := hf.bnd fun x => Pure.rd1 h x
theorem Pure.toB (r : Rv) : Pure (toB r) := fun fs b fs' e => by
  unfold Fx.toB at e
  split at e
  · cases e; rfl
  · cases e
theorem Pure.fB {f : M Rv} (hf : Pure f) : Pure (fB f) := hf.bnd Pure.toB
theorem Pure.fOr {f g : M Bool} (hf : Pure f) (hg : Pure g) : Pure (fOr f g) := hf.bnd fun b => by
  cases b
  · exact hg
  · exact Pure.rt _
theorem Pure.fAnd {f g : M Bool} (hf : Pure f) (hg : Pure g) : Pure (fAnd f g) := hf.bnd fun b => by
  cases b
  · exact Pure.rt _
  · exact hg
theorem Pure.fNot {f : M Bool} (hf : Pure f) : Pure (fNot f) := hf.bnd fun b => Pure.rt _
def isIntD : D → Bool
  | .int _ => true
  | _ => false
def intSl : Sl → Bool
  | .own _ (.list ds) => ds.all isIntD
  | .own _ _ => false
  | _ => true
theorem Rps.ints_any {K : PySem.W.Frag} {S S' : Hp} {xs : List V} {ds : List D} (h : ds.all isIntD = true) (r : Rps K S xs ds) : Rps K S' xs ds := by
  induction xs generalizing ds with
  | nil => cases r; exact .nil
  | cons v vs ih =>
    cases r with
    | cons r t =>
      rw [List.all_cons, Bool.and_eq_true] at h
      refine .cons ?_ (ih h.2 t)
      cases r with
      | int i => exact .int i
      | _ => exact absurd h.1 (by simp [isIntD])
end
/-- x = f(a, b); if c: g; x[0].append(z) -/
def sPoke (i a b : Nat) (G : Fn) (c : M Bool) (g : SM) : SM := fun fs => match fs[a]?, fs[b]? with
  | some (.dat da), some (.dat db) => match G [.dat da, .dat db] with
    | some (.inr (false, d), _) => match c (fs.set i (.dat d)) with
      | some (.inr true, fs1) => match g fs1 with
        | some (.ret fr e, fs2) => some (.ret fr e, fs2)
        | _ => none
      | some (.inr false, _) => if fs.all intSl = true ∧ i < fs.length then some (.nx, fs.set i .no) else none
      | _ => none
    | _ => none
  | _, _ => none
section
variable {X : Cx} {J : Inf} {W : WX} {k : Nat} {fa : Addr} {fd : FuncData} {ps : List Str} {G : Fn} {f x y z : Str} {c : Expr} {th : List Stmt} {fc : M Bool} {g : SM} {zi : Int}
theorem rel_poke {σ : St} {H S H1 S1 H2 S2 : Hp} {fs : Fs} {i : Nat} {v : V} {p : Addr} {ys : List V} {d : D} (R : Rel X.K J σ H S fs) (st1 : Stp (fun _ => False) (fun _ => False) H S H1 S1) (R2 : Rel X.K J (σ.set i (some v)) H2 S2 (fs.set i (.dat d))) (g2 : Same S1 S2)
    (hp : H p = none) (hp2 : H2 p = some (.lst ys)) (hi : fs.all intSl = true) : Rel X.K J (σ.set i (some v)) (upd H2 p (.lst (ys ++ [.int zi]))) S (fs.set i .no) := by
  have ne : ∀ {a : Addr} {o : HO}, H a = some o → a ≠ p := fun {a o} e z => by rw [z, hp] at e; cases e
  have noi : ∀ {j : Nat} {s : Sl}, s ≠ .no → (fs.set i .no)[j]? = some s → i ≠ j ∧ fs[j]? = some s := fun {j s} hs q => by
    by_cases hj : i = j
    · subst hj
      by_cases hl : i < fs.length
      · rw [List.getElem?_set_self hl] at q
        cases q
        exact absurd rfl hs
      · rw [List.getElem?_eq_none (by simpa using hl)] at q; cases q
    · rw [List.getElem?_set_ne hj] at q
      exact ⟨hj, q⟩
  have live0 : ∀ a, J.H0 a ≠ none → a ≠ p := fun a h => by
    have := R.live0 a h
    intro z
    rw [z] at this
    exact this hp
  refine ⟨fun a o e => ?_, ?_, fun j d' q => ?_, fun j n d' q => ?_, fun j j2 n m d1 d2 q q1 q2 z1 z2 => ?_, fun a o e nb => ?_, R.grow0, R.new0, fun a h => ?_, R.bwl⟩
  · have h2 : H2 a = some o := R2.sub _ _ (g2 _ _ (st1.grow _ _ e))
    rw [upd_ne (ne (R.sub _ _ e))]
    exact h2
  · rw [List.length_set, List.length_set]; exact R.len
  · obtain ⟨hj, q'⟩ := noi (by simp) q
    rw [List.getElem?_set_ne hj]
    exact R.dat j d' q'
  · obtain ⟨hj, q'⟩ := noi (by simp) q
    obtain ⟨pj, w1, w2, w3, w4⟩ := R.own j n d' q'
    obtain ⟨pj2, x1, x2, _, _⟩ := R2.own j n d' (by rw [List.getElem?_set_ne hj]; exact q')
    rw [List.getElem?_set_ne hj] at x1 ⊢
    rw [w1] at x1
    cases x1
    have hin : intSl (.own n d') = true := List.all_eq_true.mp hi _ (List.mem_of_getElem? q')
    refine ⟨pj, w1, ?_, w3, w4⟩
    obtain ⟨o, ho⟩ := w2.live
    have npj := ne ho
    cases d' with
    | list ds =>
      obtain ⟨xs, e1, e2⟩ := x2
      exact ⟨xs, by rw [upd_ne npj]; exact e1, Rps.ints_any hin e2⟩
    | _ => exact absurd hin (by simp [intSl])
  · obtain ⟨hj, q1'⟩ := noi (by simp) q1
    obtain ⟨hj2, q2'⟩ := noi (by simp) q2
    rw [List.getElem?_set_ne hj] at z1
    rw [List.getElem?_set_ne hj2] at z2
    exact R.sep j j2 n m d1 d2 q q1' q2' z1 z2
  · rw [upd_ne (live0 a (by rw [e]; simp))]
    exact R2.keep0 a o e nb
  · rw [upd_ne (live0 a h)]
    exact R2.live0 a h
theorem fss_poke (i a b : Nat) {pf px px2 pz pc py ps1 ps2 ps3 psub pzero pap papc pone : Pos} {k0 k1 : Nat} (hN : X.N.Nodup) (FF : FnOk X.prog X.w X.K X.mg X.base (L2.CX X.prog X.w) k fa fd ps (spN X.K X.mg G)) (hr : Room k X.A) (hg : Gl X f) (hm : X.mg f = some (.ref fa)) (hk : PySem.W.keepIn X.K (.ref fa) = true) (hb : Binds X.K fd ps []) (tk : Takes X W)
    (hc : FT X J W c fc) (hpure : Pure fc) (ht : FSs X J W th g)
    (hi : X.N[i]? = some x := by rfl) (ha : X.N[a]? = some y := by rfl) (hbn : X.N[b]? = some z := by rfl)
    (lx : Loc X.env.scope x := by first | exact Or.inl rfl | exact Or.inr rfl) (vx : Vis X.env.scope x := by first | exact Or.inl rfl | exact Or.inr (Or.inl rfl) | exact Or.inr (Or.inr rfl))
    (vy : Vis X.env.scope y := by first | exact Or.inl rfl | exact Or.inr (Or.inl rfl) | exact Or.inr (Or.inr rfl)) (vz : Vis X.env.scope z := by first | exact Or.inl rfl | exact Or.inr (Or.inl rfl) | exact Or.inr (Or.inr rfl))
    (dx : (x == ("__debug__" : Str)) = false := by decide) (dy : (y == ("__debug__" : Str)) = false := by decide) (dz : (z == ("__debug__" : Str)) = false := by decide) (df : (f == ("__debug__" : Str)) = false := by decide)
    (cx : (x == ("__classdict__" : Str)) = false := by decide) (cy : (y == ("__classdict__" : Str)) = false := by decide) (cz : (z == ("__classdict__" : Str)) = false := by decide)
    (s1 : starEach [.Name y py, .Name z pz] X.env = (false, eval (.Name y py) X.env) :: starEach [.Name z pz] X.env := by rfl) (s2 : starEach [.Name z pz] X.env = (false, eval (.Name z pz) X.env) :: starEach [] X.env := by rfl)
    (hpl : (backTo pc (starEach [.Name z pz] X.env)).any (·.1) = false := by rfl)
    (sw : swapsWith (.Call (.Name f pf) [.Name y py, .Name z pz] [] pc) (some (.Name x px)) ps1.line X.env = pure false := by rfl) (hf : X.fn x = true ∨ X.env.scope.names.lookup x = some .local := by first | exact .inl rfl | exact .inr rfl | assumption)
    (sx : swapsWith (.Call (.Attribute (.Subscript (.Name x px2) (.Constant (.int 0) k0 pzero) psub) "append" pap) [.Constant (.int zi) k1 pone] [] papc) none ps3.line X.env = pure false := by rfl)
    (hbase : attributeBase (.Subscript (.Name x px2) (.Constant (.int 0) k0 pzero) psub) "append" X.env (eval (.Subscript (.Name x px2) (.Constant (.int 0) k0 pzero) psub) X.env) = eval (.Subscript (.Name x px2) (.Constant (.int 0) k0 pzero) psub) X.env := by rfl)
    (hfew : ((backTo papc (starEach [.Constant (.int zi) k1 pone] X.env)).all (fun x => !x.1) && (backToKw papc (keywordEach [] X.env)).all (fun x => x.1.isSome)
      && decide (([.Constant (.int zi) k1 pone] : List Expr).length + ([] : List Keyword).length + (if ([] : List Keyword).isEmpty then 0 else 1) < 30)) = true := by rfl)
    (hline : (pap.endLine == papc.line) = true := by rfl) (s3 : starEach [.Constant (.int zi) k1 pone] X.env = (false, eval (.Constant (.int zi) k1 pone) X.env) :: starEach [] X.env := by rfl) (hplain : (backTo papc (starEach [] X.env)).any (·.1) = false := by rfl) (hs : PlainIx (.Constant (.int 0) k0 pzero) := by intro _ _; rfl) :
    FSs X J W [.Assign [.Name x px] (.Call (.Name f pf) [.Name y py, .Name z pz] [] pc) ps1, .If c th [] ps2, .Expr (.Call (.Attribute (.Subscript (.Name x px2) (.Constant (.int 0) k0 pzero) psub) "append" pap) [.Constant (.int zi) k1 pone] [] papc) ps3] (sPoke i a b G fc g) := by
  obtain ⟨tc, ptc, sc⟩ := hc
  obtain ⟨tt, ptt, st⟩ := ht
  refine ⟨_, pss_cons (ps_set hN hi lx (pe_callS FF hr hg hm hk hb (fun σ => passAt tk σ) (pa_cons (pe_var ha vy dy cy) (pa_cons (pe_var hbn vz dz cz) pa_nil s2) s1) df s1 hpl) sw hf)
    (pss_cons (ps_if ptc ptt pss_nil) (pss_one (ps_expr (pe_bm F.plainAttrs_list F.slot_list_append F.type_list_append mt_append (pe_ix ix_seq (pe_var hi vx dx cx) pe_int hs) (pa_cons pe_int pa_nil s3) hbase hfew hline s3 hplain) sx))), fun σ H S fs D r fs' R e p => ?_⟩
  unfold sPoke at e
  split at e
  · rename_i da db qa qb
    split at e
    · rename_i d os hG
      obtain ⟨va, ea, ra⟩ := R.dat a da qa
      obtain ⟨vb, eb, rb⟩ := R.dat b db qb
      have AR : ArgR X.K S H [va, vb] [.dat da, .dat db] := by
        refine ⟨rfl, fun j d' q => ?_, fun j n d' q => ?_, fun j j2 n m d1 d2 q q1 => ?_⟩
        · match j, q with
          | 0, q => cases q; exact ⟨va, rfl, ra⟩
          | 1, q => cases q; exact ⟨vb, rfl, rb⟩
          | j + 2, q => simp at q
        · match j, q with
          | 0, q => cases q
          | 1, q => cases q
          | j + 2, q => simp at q
        · match j, q1 with
          | 0, q => cases q
          | 1, q => cases q
          | j + 2, q => simp at q
      have noBx : ∀ l, ¬ Bx [va, vb] [.dat da, .dat db] l := fun l ⟨j, n, d', q, _⟩ => by
        match j, q with
        | 0, q => cases q
        | 1, q => cases q
        | j + 2, q => simp at q
      refine ⟨va, ea, vb, eb, S, _, _, _, R.sub, AR, hG, fun H1 S1 sub1 st1 _ v rv nv => ?_⟩
      have st1' : Stp (fun _ => False) (fun _ => False) H S H1 S1 := st1.weak (fun l h => noBx l h) fun _ h => h
      have R1 := (R.grown st1' sub1).putD i (show Rp X.K S1 v d from rv)
      obtain ⟨l, p0, xs, ys, rfl, hT, hp0, hS1, hyl⟩ := nv
      split at e
      · rename_i fs1 hc
        refine sc _ H1 S1 _ _ _ fs1 R1 hc fun H2 S2 R2 st2 sh2 b' hb' => ?_
        cases hb'
        show tt _ _ H2
        split at e
        · rename_i fr de fs2 hg'
          cases e
          refine st _ H2 S2 fs1 _ _ _ R2 hg' fun σ' H' S' R' gr => ?_
          exact p σ' H' S' R' ((st1.grow.trans st2.grow).trans gr)
        · cases e
      · rename_i fs1 hc
        refine sc _ H1 S1 _ _ _ fs1 R1 hc fun H2 S2 R2 st2 sh2 b' hb' => ?_
        cases hb'
        have epf := hpure _ _ _ hc
        subst epf
        split at e
        · rename_i hall
          cases e
          have sub12 : Same S1 H2 := st2.grow.trans R2.sub
          have hH2 : H2 p0 = some (.lst ys) := sub12 _ _ hS1
          have hlen : i < σ.length := by rw [R.len]; exact hall.2
          refine ⟨_, List.getElem?_set_self hlen, .inr (.inl ⟨l, _, 0, .ref p0, rfl, rfl, Same.seqT sub12 hT, by simp [atI, ixN], .inl ⟨rfl, _, SqL.of hH2⟩, p0, ys, .int zi, rfl, rfl, hH2, hyl, ?_⟩)⟩
          exact p _ _ S (rel_poke R st1' R2 st2.grow hp0 hH2 hall.1) (Same.refl _)
        · cases e
      · cases e
    · cases e
  · cases e
end
end Fx

namespace Fx
open PySem PySem.Spec PyProof.Rows L2
/-! ### t.count(x) of ints -/
section
variable {X : Cx} {J : Inf} {W : WX}
def rCountT (K : PySem.W.Frag) : V → List V → Hp → VK → Prop := fun x xs H Q => ∃ (a : Addr) (y : V) (k : Int) (ds : List PyData), x = V.ref a ∧ xs = [y] ∧ Dp K H (V.ref a) (.tuple ds) ∧ Dp K H y (.int k) ∧ ds.all isIntD = true ∧
  Q (.int ((ds.countP fun z => PyData.eqv z (.int k) : Nat) : Int)) H
theorem ints_plain : ∀ {ds : List PyData}, ds.all isIntD = true → PyData.plainAll ds = true ∧ PyData.depthAll ds = 0
  | [], _ => ⟨rfl, by simp [PyData.depthAll]⟩
  | d :: ds, h => by
    rw [List.all_cons, Bool.and_eq_true] at h
    obtain ⟨h1, h2⟩ := ints_plain h.2
    cases d with
    | int i => exact ⟨by simp [PyData.plainAll, PyData.plain, h1], by simp [PyData.depthAll, PyData.depth, h2]⟩
    | _ => exact absurd h.1 (by simp [isIntD])
theorem mt_countT (hu : X.A.units + 65 < cLine) : MtR X "tuple.count" (rCountT X.K) := by
  intro pins s σ H x xs v us Q I rx rxs h
  obtain ⟨a, y, k, ds, rfl, rfl, hl, hy, hi, q⟩ := h
  cases rx
  cases rxs with
  | cons ry rt =>
    rename_i uy ut
    cases rt
    obtain ⟨bs, r1⟩ := Dp.reads I (.int k) y uy hy ry
    obtain ⟨p1, p2⟩ := ints_plain hi
    cases hl with
    | tup hs ha =>
      obtain ⟨its, rv, it, hlen⟩ := I.tuple hs
      obtain ⟨as, h4⟩ := Dp.readsAll I ds _ its ha rv
      exact PySem.SeqAt.count_tuple_data (vs := its.toArray) (xs := ds) (d := .int k) it (show ReadsAll s.heap its.toArray.toList ds as from h4) r1 p1 (by simp [PyData.plain]) (by rw [p2]; simp [PyData.depth]; omega) ⟨.int _, H, I.tok _, ⟨_, rfl⟩, q⟩
def hCount (d e : D) : Option Rv := match d, e with
  | .tuple ds, .int k => bif ds.all isIntD then some (.val (.int ((ds.countP fun z => PyData.eqv z (.int k) : Nat) : Int))) else none
  | _, _ => none
theorem ints_lay : ∀ {ds : List PyData}, ds.all isIntD = true → SeqAt.shaped (.tuple ds) = true := fun {ds} h => by
  have : ∀ {ds : List PyData}, ds.all isIntD = true → PyData.canLayAll0 ds = true := by
    intro ds
    induction ds with
    | nil => intro _; simp [PyData.canLayAll0]
    | cons d ds ih =>
      intro h
      rw [List.all_cons, Bool.and_eq_true] at h
      cases d with
      | int i => simp [PyData.canLayAll0, PyData.canLay0, ih h.2]
      | _ => exact absurd h.1 (by simp [isIntD])
  show ((PyData.tuple ds).canLay0 && decide ((PyData.tuple ds).depth ≤ 64)) = true
  rw [Bool.and_eq_true]
  refine ⟨by simp only [PyData.canLay0]; exact this h, decide_eq_true ?_⟩
  simp only [PyData.depth]
  rw [(ints_plain h).2]
  omega
def fCount (f g : M Rv) : M Rv := bnd f fun x => bnd (isT x) fun _ => bnd g fun y => rd2 hCount x y
theorem fe_count {o e : Expr} {f g : M Rv} {apos cpos : Pos} (hu : X.A.units + 65 < cLine) (hf : FE X J W o f) (hg : FE X J W e g) (hbase : attributeBase o "count" X.env (eval o X.env) = eval o X.env := by rfl)
    (hfew : ((backTo cpos (starEach [e] X.env)).all (fun x => !x.1) && (backToKw cpos (keywordEach [] X.env)).all (fun x => x.1.isSome)
      && decide (([e]).length + ([] : List Keyword).length + (if ([] : List Keyword).isEmpty then 0 else 1) < 30)) = true := by rfl)
    (hline : (apos.endLine == cpos.line) = true := by rfl) (hs : starEach [e] X.env = (false, eval e X.env) :: starEach [] X.env := by rfl) (hplain : (backTo cpos (starEach [] X.env)).any (·.1) = false := by rfl) :
    FE X J W (.Call (.Attribute o "count" apos) [e] [] cpos) (fCount f g) := by
  obtain ⟨t, pe, s⟩ := hf
  obtain ⟨t2, pe2, s2⟩ := hg
  refine ⟨_, pe_bmT F.slot_tuple_count F.type_tuple_count (mt_countT hu) pe (pa_cons pe2 pa_nil hs) hbase hfew hline hs hplain, fun σ H S fs Q res fs' R e p => ?_⟩
  refine s.bind R e p fun rx fs1 x H1 S1 R1 r1 e1 p1 st1 sh1 => ?_
  unfold bnd isT at e1
  cases q : rx.rd fs1 with
  | none => simp only [q] at e1; cases e1
  | some d =>
    cases d with
    | tuple ds =>
      simp only [q] at e1
      obtain ⟨a, xs, rfl, qa, pa, ra⟩ := (r1.rd R1 q).tup
      refine ⟨⟨_, _, rfl, Same.seqT R1.sub qa, pa.mono R1.sub⟩, ?_⟩
      have e1' : bnd g (fun y => rd2 hCount rx y) fs1 = some (res, fs') := e1
      refine s2.bind R1 e1' p1 fun ry fs2 y H2 S2 R2 r2 e2 p2 st2 sh2 => ?_
      unfold rd2 at e2
      split at e2
      · rename_i d d' q1 q2
        split at e2
        · rename_i rv q3
          cases e2
          have b1 := (r1.later st2 sh2).rd R2 q1
          have b2 := r2.rd R2 q2
          unfold hCount at q3
          split at q3
          · rename_i ds' k'
            cases c : ds'.all isIntD with
            | false => rw [c] at q3; cases q3
            | true =>
              rw [c] at q3
              cases q3
              exact ⟨_, y, k', ds', rfl, rfl, b1.dp R2.sub (ints_lay c), b2.dp R2.sub (shaped_int k'), c, p2.here R2 (Rp.int _)⟩
          · cases q3
        · cases e2
      · cases e2
    | _ => simp only [q] at e1; cases e1
end
end Fx

namespace Fx
open PySem PySem.Spec PyProof.Rows L2
/-! ### a def that is called where no repr is under way -/
structure FnG (P : Program) (w : World) (K : PySem.W.Frag) (mg : Str → Option Value) (base : Heap) (CX : CXT) (k : Nat) (f : Addr) (fd : FuncData) (ps : List Str) (sp : Sp) : Prop where
  run : ∀ (A : Around) (outer : List Env) (s : Shared) (H : Hp) (args : Args) (us : List Value) (vs : List V) (Q : VK) (E : XK), Room k A → A.guards = some [] → Env0 P w K mg base A outer s H → BindsTo s fd args (ps.zip us) → Vals vs us → sp vs H Q E →
    codeAny (model P w) A (.call (.ref f) args) (CR CX outer P w H s Q E) s
theorem FnG.imp {P : Program} {w : World} {K : PySem.W.Frag} {mg : Str → Option Value} {base : Heap} {CX : CXT} {k : Nat} {f : Addr} {fd : FuncData} {ps : List Str} {sp sp' : Sp} (F : FnG P w K mg base CX k f fd ps sp) (h : ∀ vs H Q E, sp' vs H Q E → sp vs H Q E) : FnG P w K mg base CX k f fd ps sp' :=
  ⟨fun A outer s H args us vs Q E hr hg e0 b r q => F.run A outer s H args us vs Q E hr hg e0 b r (h _ _ _ _ q)⟩
theorem deeper_guards (A : Around) (env : Env) : (A.deeper env).guards = A.guards := rfl
theorem fn_okG {P : Program} {w : World} {K : PySem.W.Frag} {mg : Str → Option Value} {base : Heap} {x qual : Str} {st : Stmt} {f : Addr} {fd : FuncData} {N ps : List Str} {k : Nat} {sp : Sp} (F : Fun K x qual st f fd) (S : FnScope N ps (defScope st)) (len : ∀ vs H Q E, sp vs H Q E → vs.length = ps.length)
    (body : ∀ (cdv : Value) (A : Around) (outer : List Env) (s : Shared) (H : Hp) (vs : List V) (Q : VK) (E : XK), Room k (A.deeper (envOfC qual (defScope st) s.heap.objs.size f cdv)) → A.guards = some [] → sp vs H Q E →
      ∃ t, PSs (cxOf (L2.CX P w) P w K mg base N qual (defScope st) f cdv A outer s H E) (defBody st) t ∧ t { nx := fun _ H' => Q .non H', rt := Q } (start N vs) H) : FnG P w K mg base (L2.CX P w) (k + 1) f fd ps sp := by
  obtain ⟨oc, od, kV, doc, pm, an, cdv, ct, osl, rfl, lk, hcd⟩ := F.ex
  refine ⟨fun A outer s H args us vs Q E hr hg e0 hb r hsp => ?_⟩
  have KX : K.In s.heap := e0.mod.kin.keeps fun b o e => (e0.bs b o e).1
  have lim : s.heap.NoLimit := e0.mod.nolimit.keeps fun b o e => (e0.bs b o e).1
  refine codeAny_call_function hr.depth (KX _ _ lk) rfl S.co S.gen rfl (PySem.W.codeRec_of KX hcd) (hb _ _ _ _ ?_)
  refine wpAny_newFunctionEnv_cells S.kind (fun ⟨n, v⟩ hy => ?_) fun env he s1 x => ?_
  · rcases S.par n (List.of_mem_zip hy).1 with q | q
    · exact .inl q
    · exact .inr ⟨q, PySem.W.cellsFrom_some _ _ _ (.inl q)⟩
  · subst he
    refine ⟨lim.keeps x.toInCall.keep, codeAny_func ?_⟩
    obtain ⟨t, ht, hq⟩ := body cdv A outer s H vs Q E (hr.deeper _) hg hsp
    refine wpAny_mono (ht.run [] s1 (start N vs) H _ (inv_start S hr.hd e0 (len _ _ _ _ hsp) r x) hq) (fun fl s' hs => ?_) fun e s' hs => hs
    cases fl with
    | ret u => obtain ⟨v, σ', H', J, rv, q⟩ := hs; exact ⟨v, H', J.os, J.bare, J.base, J.hok, rv, q⟩
    | next => obtain ⟨σ', H', J, q⟩ := hs; exact ⟨V.non, H', J.os, J.bare, J.base, J.hok, rfl, q⟩
    | brk => obtain ⟨_, _, _, q⟩ := hs; exact q.elim
    | cont => obtain ⟨_, _, _, q⟩ := hs; exact q.elim
section
variable {P : Program} {w : World} {K : PySem.W.Frag} {mg : Str → Option Value} {base : Heap}
/-- the law's def, by its body, where no repr is under way -/
theorem fn_mkG {x qual : Str} {st : Stmt} {f : Addr} {fd : FuncData} {N ps : List Str} {k : Nat} {g : SM} (F : Fun K x qual st f fd) (Sc : FnScope N ps (defScope st))
    (hb : ∀ (cdv : Value) (A : Around) (outer : List Env) (s : Shared) (H : Hp) (E : XK) (J : Inf), Room k (A.deeper (envOfC qual (defScope st) s.heap.objs.size f cdv)) → A.guards = some [] →
      FSs (cxOf (L2.CX P w) P w K mg base N qual (defScope st) f cdv A outer s H E) J (fun cls d _ H' => E cls d H') (defBody st) g) :
    FnG P w K mg base (L2.CX P w) (k + 1) f fd ps (spF K mg (mkFn ps.length N.length g)) := by
  have hpl : ps.length ≤ N.length := by have := congrArg List.length Sc.pre; rw [List.length_take] at this; omega
  have arg : ∀ {vs : List V} {as : List Sl} {S H : Hp} {r}, ArgR K S H vs as → mkFn ps.length N.length g as = some r → vs.length = ps.length := fun {vs as S H r} A e => by
    unfold mkFn at e
    split at e
    · rename_i hl; rw [A.len]; exact hl
    · cases e
  refine fn_okG F Sc (fun vs H Q E h => ?_) (fun cdv A outer s H vs Q E hr hgd h => ?_)
  · obtain ⟨S, as, res, os, sub, AR, e, _⟩ := h
    exact arg AR e
  · obtain ⟨S, as, res, os, sub, AR, e, post⟩ := h
    have hl := arg AR e
    obtain ⟨t, pt, sim⟩ := hb cdv A outer s H E (infOf vs as H S) hr hgd
    refine ⟨t, pt, ?_⟩
    have R := rel_start (N := N) sub AR (by rw [hl]; exact hpl)
    rw [hl] at R
    unfold mkFn at e
    rw [if_pos (by rw [← AR.len]; exact hl)] at e
    have fin : ∀ {σ' : St} {H' S' : Hp} {fs' : Fs}, Rel K (infOf vs as H S) σ' H' S' fs' → Same S' H' ∧ Stp (Bx vs as) (fun _ => False) H S H' S' ∧ OutR K S' H' vs as (outs ps.length 0 fs') := fun {σ' H' S' fs'} R' => by
      refine ⟨R'.sub, ⟨fun a o q nb => R'.keep0 a o q fun z => nb (bw_bx z), R'.grow0, fun a q => (R'.new0 a q).imp id .inl, R'.live0⟩, fun i n d q => ?_⟩
      obtain ⟨q1, q2⟩ := outs_get q
      obtain ⟨p, z1, z2, z3, z4⟩ := R'.own i n d q1
      have en : n = i + 1 := by omega
      subst en
      have z4' : (match as[i]?, vs[i]? with
        | some (.own _ _), some (.ref p) => some p
        | _, _ => none) = some p := z4
      split at z4'
      · rename_i m e0 p' w1 w2
        cases z4'
        exact ⟨⟨m, e0, w1⟩, p, w2, z2, z3⟩
      · cases z4'
    split at e
    · rename_i fs' q
      cases e
      refine sim _ H S _ _ .nx fs' R q fun σ' H' S' R' _ => ?_
      obtain ⟨f1, f2, f3⟩ := fin R'
      exact post H' S' f1 f2 f3 .non Rp.non
    · rename_i fr d fs' q
      cases e
      refine sim _ H S _ _ (.ret fr d) fs' R q fun σ' H' S' R' _ v r => ?_
      obtain ⟨f1, f2, f3⟩ := fin R'
      refine post H' S' f1 f2 f3 v ?_
      cases fr with
      | false => exact r
      | true => exact r
    · rename_i c fs' q
      cases e
      refine sim _ H S _ _ (.ex c) fs' R q fun σ' H' S' R' _ C hC => ?_
      obtain ⟨f1, f2, f3⟩ := fin R'
      exact post H' S' f1 f2 f3 C hC
    · cases e
end

/-! ### the law at the top: no repr is under way there -/
theorem top_call {P : Program} {w : World} {K : PySem.W.Frag} {mg mb : Str → Option Value} {CX : CXT} {k : Nat} {fa a : Addr} {fd : FuncData} {x : Str} {sp : Sp} {s₁ : Shared} {vs : List Value} {ns : List Int}
    (KX : K.In s₁.heap) (hns : s₁.heap.Ns mainGlobals mg) (hb : s₁.heap.Ns builtinsNs mb) (hbb : ∀ x : Str, x ≠ "__name__" → mb x = bootBuiltins x) (hlim : s₁.heap.NoLimit) (hg : s₁.gens = #[])
    (ha : s₁.heap.get? a = some { cls := .type "list", data := .seq vs.toArray }) (hi : IntsAre vs ns) (hl : ns.length ≤ sizeLine) (hr : Room k callerA)
    (F : ∀ base : Heap, FnG P w K mg base CX k fa fd [x] sp) (hbind : ∀ (s : Shared) (u : Value), BindsTo s fd ⟨[u], []⟩ [(x, u)])
    (hsp : ∀ H : Hp, SqL K H a (ns.map V.int) → sp [.ref a] H (fun v _ => v = .bl true) fun _ _ _ => False)
    (hCX : ∀ H e s', CX [] H s₁ (fun _ _ _ => False) e s' → False) :
    codeAny (model P w) callerA (.call (.ref fa) ⟨[.ref a], []⟩) (fun r s' => r = .ok (.ret (.bool true)) ∧ OldK s₁.heap s'.heap ∧ s'.os = s₁.os ∧ AllBare s'.gens) s₁ := by
  have rv := vals_ints hi
  have hlen := hi.length
  -- what is tracked at the start: the script, or nothing
  have go : ∀ H : Hp, (∀ b, H b ≠ none → b = a) → (H a ≠ none → K.lookup a = none ∧ ∃ o xs, H a = some (.frz o (.lst xs))) → SqL K H a (ns.map V.int) → HOk P w H s₁.heap →
      codeAny (model P w) callerA (.call (.ref fa) ⟨[.ref a], []⟩) (fun r s' => r = .ok (.ret (.bool true)) ∧ OldK s₁.heap s'.heap ∧ s'.os = s₁.os ∧ AllBare s'.gens) s₁ := by
    intro H h1 h2 hS hok
    have none_of : ∀ {b : Addr}, b ≠ a → H b = none := fun {b} n => by
      cases q : H b with
      | none => rfl
      | some u => exact absurd (h1 b (by rw [q]; simp)) n
    have dict_ne : ∀ {b : Addr} {m : Str → Option Value}, s₁.heap.Ns b m → b ≠ a := fun {b m} ⟨o, es, ep, e, d, _⟩ z => by
      subst z
      rw [ha] at e
      cases e
      have d' : Data.seq vs.toArray _ = Data.dict es ep := d
      cases d'
    have nsH : ∀ {b : Addr} {m : Str → Option Value}, s₁.heap.Ns b m → (hidT s₁.heap H).Ns b m := fun {b m} z => by
      have nz := none_of (dict_ne z)
      obtain ⟨o, es, ep, e, d, r⟩ := z
      exact ⟨o, es, ep, hidT_get e nz, d, r⟩
    have kH : K.In (hidT s₁.heap H) := fun b o e => hidT_get (KX b o e) (by
      cases q : H b with
      | none => rfl
      | some u =>
        have eb : b = a := h1 b (by rw [q]; simp)
        subst eb
        rw [(h2 (by rw [q]; simp)).1] at e; cases e)
    have hM : Mod K mg (hidT s₁.heap H) := ⟨kH, nsH hns, ⟨mb, nsH hb, hbb⟩, let ⟨mc, q1, q2⟩ := hlim; ⟨mc, nsH q1, q2⟩⟩
    have e0 : Env0 P w K mg (hidT s₁.heap H) callerA [] s₁ H := ⟨rfl, hM, fun b o e => of_hidT e, Nat.le_of_eq (hidT_size _ _), trivial, fun b hb => absurd (show b ∈ ([] : List Addr) from hb) (by simp), hok, .of_eq hg⟩
    refine codeAny_mono ((F _).run callerA [] s₁ H ⟨[.ref a], []⟩ [.ref a] [.ref a] _ _ hr rfl e0 (hbind s₁ (.ref a)) (.cons rfl .nil) (hsp H hS)) fun r s' h => ?_
    match r, h with
    | .error e, h => exact (hCX H e s' h).elim
    | .ok .next, h => exact False.elim h
    | .ok .brk, h => exact False.elim h
    | .ok .cont, h => exact False.elim h
    | .ok (.ret u), h =>
      obtain ⟨v, H', os, bare, un, hok', r', q⟩ := h
      have q' : v = .bl true := q
      subst q'
      obtain rfl : u = Value.bool true := r'
      refine ⟨rfl, OldK.of_keep fun b o e => ?_, os, bare⟩
      by_cases eb : b = a
      · subst eb
        cases q : H b with
        | none => exact un.keep b o e q (by intro z; exact absurd (show b ∈ ([] : List Addr) from z) (by simp)) (by simp)
        | some u =>
          obtain ⟨_, ob, xs, z⟩ := h2 (by rw [q]; simp)
          obtain ⟨y1, _⟩ := hok b _ z
          obtain ⟨y2, _⟩ := hok' b _ (un.frzs b ob _ z)
          rw [e] at y1; cases y1
          exact y2
      · exact un.keep b o e (none_of eb) (by intro z; exact absurd (show b ∈ ([] : List Addr) from z) (by simp)) (by simp)
  cases hk : K.lookup a with
  | some o =>
    have e := KX a o hk
    rw [ha] at e
    cases e
    exact go (fun _ => none) (fun b z => absurd rfl z) (fun z => absurd rfl z) (.inr ⟨_, vs.toArray, _, hk, rfl, rfl, rfl, by rw [List.size_toArray, hlen]; exact hl, by simpa using rv⟩) fun b u z => by cases (show (none : Option HO) = some u from z)
  | none =>
    refine go (fun b => if b = a then some (.frz { cls := .type "list", data := .seq vs.toArray } (.lst (ns.map V.int))) else none) (fun b z => ?_) (fun _ => ⟨hk, _, _, if_pos rfl⟩) (.inl (.inr ⟨_, if_pos rfl⟩)) fun b u z => ?_
    · by_cases eb : b = a
      · exact eb
      · exact absurd (if_neg eb) z
    · by_cases eb : b = a
      · have z' := (if_pos eb).symm.trans z
        cases z'
        subst eb
        exact ⟨ha, by rw [List.length_map]; exact hl, vs, _, rv, ha⟩
      · cases (if_neg eb).symm.trans z
theorem FnG.law {P : Program} {w : World} {K : PySem.W.Frag} {mg : Str → Option Value} {base : Heap} {k : Nat} {f : Addr} {fd : FuncData} {x : Str} {G : Fn} (F : FnG P w K mg base (L2.CX P w) k f fd [x] (spF K mg G)) : FnG P w K mg base (L2.CX P w) k f fd [x] (spScr K G) := F.imp fun vs H Q E h => by
  obtain ⟨a, ns, rfl, hS, e, q⟩ := h
  refine ⟨H, _, _, _, Same.refl _, ⟨rfl, fun i d z => ?_, fun i n d z => ?_, fun i j n m d e p z => ?_⟩, e, fun H' S' sub st o => ?_⟩
  · cases i with
    | zero => cases z; exact ⟨_, rfl, .scr hS (Rps.of_ints ns)⟩
    | succ i => simp at z
  · cases i with
    | zero => cases z
    | succ i => simp at z
  · cases i with
    | zero => cases z
    | succ i => simp at z
  · intro v r
    cases (show Rp K S' v (.bool true) from r)
    exact q H'
/-- the head, for a law that calls repr -/
theorem law_headG {l : PySem.W.OpenLaw} {n k : Nat} {q : Program} {loose : List Str} {XP : (Str → Option Value) → Heap → Prop} {YP : World → Heap → Prop} {d : DefRec} {K : Params → PySem.W.Frag} {x : Str} (G : Fn)
    (hn : l.most = some n) (hn2 : n ≤ sizeLine) (hdf : d.params.defaults = []) (hr : Room k callerA)
    (hY : ∀ (w : World) (h : Heap), YP w h → (K w.params).In h)
    (F : ∀ (w : World) (mg : Str → Option Value) (fa : Addr) (h : Heap), (K w.params).In h → h.Ns mainGlobals mg → mg d.name = some (.ref fa) →
      ∃ fd : FuncData, (∀ (s : Shared) (u : Value), BindsTo s fd ⟨[u], []⟩ [(x, u)]) ∧ ∀ base : Heap, FnG l.prog w (K w.params) mg base (L2.CX l.prog w) k fa fd [x] (spF (K w.params) mg G))
    (hG : ∀ ns : List Int, ns.length ≤ n → (∀ z ∈ ns, Builtin.Int.intBits z ≤ 1048576) → G (scrD ns) = some (.inr (false, .bool true), [.no])) :
    PySem.W.WalkO q loose XP YP l.row.toRowW d [] (fun f vs => PySem.call f vs) := by
  refine Att.attach_callB hn hdf fun w s₀ s₁ mg mb fa o pm cd doc a vs ns G0 Y ho hd hcd hmg hobj hints hlen hbits hg => ?_
  have KX := hY w _ Y
  obtain ⟨fd, h1, h2⟩ := F w mg fa _ KX G0.T.g hmg
  refine top_call KX G0.T.g G0.T.b G0.T.builtins G0.T.nolimit hg hobj hints (Nat.le_trans hlen hn2) hr (fun base => (h2 base).law) h1 (fun H hS => ⟨a, ns, rfl, hS, hG ns hlen hbits, fun _ => rfl⟩) fun H e s' h => ?_
  obtain ⟨_, _, _, _, _, _, _, _, _, _, _, _, z⟩ := h
  exact z
end Fx

namespace Fx
open PySem PySem.Spec PyProof.Rows L2
/-! ### repr(x) -/
mutual
/-- no list; a dict is empty -/
def okT : D → Bool
  | .none => true
  | .bool _ => true
  | .int _ => true
  | .str _ => true
  | .tuple ds => okTs ds
  | .dict [] => true
  | _ => false
def okTs : List D → Bool
  | [] => true
  | d :: ds => okT d && okTs ds
end
section
variable {X : Cx} {pins : List (Addr × Obj)} {σ : L2.St} {H S : Hp} {s : Shared}
mutual
theorem rpT_reads (I : Inv X pins σ H s) (sub : Same S H) : ∀ (d : D) (v : V) (u : Value), Rp X.K S v d → okT d = true → RelV v u → ∃ as, Reads s.heap u d as ∧ sysModules ∉ as
  | .none, _, _, h, _, r => by cases h; cases r; exact ⟨_, Reads.none, by simp⟩
  | .bool b, _, _, h, _, r => by cases h; cases r; exact ⟨_, Reads.bool b, by simp⟩
  | .int i, _, _, h, _, r => by cases h; obtain ⟨t, rfl⟩ := r; exact ⟨_, Reads.int i t, by simp⟩
  | .str x, _, _, h, _, r => by cases h; obtain ⟨t, rfl⟩ := r; exact ⟨_, Reads.str x t, by simp⟩
  | .list ds, _, _, _, ho, _ => by simp [okT] at ho
  | .tuple ds, _, _, h, ho, r => by
    cases h with
    | tup q p ra =>
      cases r
      obtain ⟨its, rv, ⟨o, h1, hc, n, hd⟩, _⟩ := I.tuple (Same.seqT sub q)
      obtain ⟨as, hr, hn⟩ := rpTs_reads I sub ds _ its ra (by simpa [okT] using ho) rv
      exact ⟨_, Reads.tuple h1 hc hd hr, hn⟩
  | .dict [], _, _, h, _, r => by
    cases h with
    | dct q ra =>
      cases ra
      cases r
      obtain ⟨_, ne, vs, kv, o, es, ep, h1, hx, hd, _, hp, _⟩ := (show ObjOk X.prog X.w H s.heap _ (.dK []) from I.hok _ _ (sub _ _ q))
      have hvs : vs = [] := by cases kv; rfl
      subst hvs
      have hes : es.toList = [] := by
        have := hp.length
        simpa using this
      refine ⟨_, Reads.dict h1 hx.1 hd (as := []) (bs := []) (by rw [hes]; exact .nil) (by rw [hes]; exact .nil), ?_⟩
      intro hm
      simp at hm
      rw [hm] at ne
      simp at ne
  | .dict (_ :: _), _, _, _, ho, _ => by simp [okT] at ho
theorem rpTs_reads (I : Inv X pins σ H s) (sub : Same S H) : ∀ (ds : List D) (vs : List V) (us : List Value), Rps X.K S vs ds → okTs ds = true → Vals vs us → ∃ as, ReadsAll s.heap us ds as ∧ sysModules ∉ as
  | [], _, _, h, _, r => by cases h; cases r; exact ⟨_, ReadsAll.nil, by simp⟩
  | d :: ds, _, _, h, ho, r => by
    simp only [okTs, Bool.and_eq_true] at ho
    cases h with
    | cons h1 h2 =>
      cases r with
      | cons r1 r2 =>
        obtain ⟨as, q1, n1⟩ := rpT_reads I sub d _ _ h1 ho.1 r1
        obtain ⟨bs, q2, n2⟩ := rpTs_reads I sub ds _ _ h2 ho.2 r2
        exact ⟨_, ReadsAll.cons q1 q2, by simp [n1, n2]⟩
end
mutual
theorem noDict_lay : ∀ {d : D}, d.canLay0 = true → d.hasDict = false
  | .none, _ => by simp [PyData.hasDict]
  | .bool _, _ => by simp [PyData.hasDict]
  | .int _, _ => by simp [PyData.hasDict]
  | .str _, _ => by simp [PyData.hasDict]
  | .list ds, h => by simp only [PyData.hasDict]; exact noDict_lays (by simpa [PyData.canLay0] using h)
  | .tuple ds, h => by simp only [PyData.hasDict]; exact noDict_lays (by simpa [PyData.canLay0] using h)
  | .dict _, h => by simp [PyData.canLay0] at h
theorem noDict_lays : ∀ {ds : List D}, PyData.canLayAll0 ds = true → PyData.hasDictAll ds = false
  | [], _ => by simp [PyData.hasDictAll]
  | d :: ds, h => by
    simp only [PyData.canLayAll0, Bool.and_eq_true] at h
    simp only [PyData.hasDictAll, noDict_lay h.1, noDict_lays h.2, Bool.or_self]
end
/-- what repr may be asked of -/
def reprOk (d : D) : Bool := d.showable && decide (d.shown.length ≤ sizeLine) && decide (d.depth ≤ 60) && (SeqAt.shaped d || okT d)
def rRepr (K : PySem.W.Frag) : List V → Hp → VK → Prop := fun xs H Q => ∃ (v : V) (d : D) (S : Hp), xs = [v] ∧ Same S H ∧ RpB K S H v d ∧ reprOk d = true ∧ Q (.str d.shown) H
theorem call_repr (hg : X.A.guards = some []) (hu : X.A.units + 65 < cLine) : CallR X (.builtin "repr") (rRepr X.K) := by
  intro pins s σ H xs us Q I r h
  obtain ⟨v, d, S, rfl, sub, rb, ok, q⟩ := h
  obtain ⟨u, rfl, ru⟩ := vals1 r
  unfold reprOk at ok
  simp only [Bool.and_eq_true, Bool.or_eq_true, decide_eq_true_eq] at ok
  obtain ⟨⟨⟨hs, hz⟩, hd⟩, hk⟩ := ok
  have key : ∃ as, Reads s.heap u d as ∧ (d.hasDict = true → sysModules ∉ as) := by
    rcases hk with hk | hk
    · obtain ⟨as, hr⟩ := Dp.reads I d v u (rb.dp sub hk) ru
      exact ⟨as, hr, fun z => by rw [noDict_lay (SeqAt.canLay_of_shaped hk)] at z; cases z⟩
    · have rp : Rp X.K S v d ∨ d = .dict [] := by
        cases d with
        | none => exact .inl rb
        | bool b => exact .inl rb
        | int i => exact .inl rb
        | str x => exact .inl rb
        | list ds => simp [okT] at hk
        | tuple ds => exact .inl rb
        | dict ds =>
          cases ds with
          | nil => exact .inr rfl
          | cons p ds => simp [okT] at hk
      rcases rp with rp | rfl
      · obtain ⟨as, hr, hn⟩ := rpT_reads I sub d v u rp hk ru
        exact ⟨as, hr, fun _ => hn⟩
      · rcases rb with ⟨a, kvs, rfl, q1, q2⟩ | ⟨a, xs, es, rfl, e1, _⟩
        · obtain ⟨as, hr, hn⟩ := rpT_reads (S := H) I (Same.refl _) (.dict []) (.ref a) u (.dct q1 (by cases q2; exact .nil)) hk ru
          exact ⟨as, hr, fun _ => hn⟩
        · cases e1
  obtain ⟨as, hr, hn⟩ := key
  have fin : ∀ (h' : Heap) (t : Tok) (tk : Tok), (∀ b o, s.heap.get? b = some o → h'.get? b = some o) → EP X pins σ Q (.str d.shown t) { s with heap := h', toks := tk } := fun h' t tk k => ⟨.str d.shown, H, I.kept k, ⟨t, rfl⟩, q⟩
  cases hr with
  | none => simp only [PyData.shown] at fin; exact PySem.P.repr_of_none (fin s.heap _ _ fun _ _ e => e)
  | bool b => simp only [PyData.shown] at fin; exact PySem.P.repr_of_bool (fin s.heap _ _ fun _ _ e => e)
  | int i t => simp only [PyData.shown] at fin; exact PySem.P.repr_of_int (by simpa [PyData.showable] using hs) (fin s.heap _ _ fun _ _ e => e)
  | str x t => simp only [PyData.shown] at fin hz; exact PySem.P.repr_of_str (fin s.heap _ _ fun _ _ e => e) hz
  | list h1 h2 h3 h4 => exact repr_of_reads' (.list h1 h2 h3 h4) hs hn hg (by omega) (fun _ _ e => e) (fun h' t tk k => fin h' t tk k) hz
  | tuple h1 h2 h3 h4 => exact repr_of_reads' (.tuple h1 h2 h3 h4) hs hn hg (by omega) (fun _ _ e => e) (fun h' t tk k => fin h' t tk k) hz
  | dict h1 h2 h3 h4 h5 => exact repr_of_reads' (.dict h1 h2 h3 h4 h5) hs hn hg (by omega) (fun _ _ e => e) (fun h' t tk k => fin h' t tk k) hz
theorem boot_repr : bootBuiltins "repr" = some (.builtin "repr") := by decide +kernel
def hRepr : List D → Option Rv
  | [d] => bif reprOk d then some (.val (.str d.shown)) else none
  | _ => none
theorem opn_repr : OpN X (rRepr X.K) hRepr := by
  intro J σ fs H S xs ds rv Q R r h p
  unfold hRepr at h
  split at h
  · rename_i d
    cases c : reprOk d with
    | false => rw [c] at h; cases h
    | true =>
      rw [c] at h
      cases h
      obtain ⟨v, rfl, ry⟩ := r.one
      exact ⟨v, d, S, rfl, R.sub, ry, c, p.here R (Rp.str _)⟩
  · cases h
end
end Fx

namespace HT
open PySem PySem.Spec PyProof.Rows
/-! ### t[::-1] of a tuple, at the library's level -/
section
variable {prog : Program} {w : World} {A : Around} {E : Value → Shared → Prop} {s : Shared}
theorem filterMap_all {α β : Type} {f : α → Option β} {g : α → β} : ∀ {l : List α}, (∀ x ∈ l, f x = some (g x)) → l.filterMap f = l.map g
  | [], _ => rfl
  | x :: l, h => by
    rw [List.filterMap_cons, h x List.mem_cons_self, List.map_cons, filterMap_all fun y hy => h y (List.mem_cons_of_mem _ hy)]
theorem pick_back (xs : Array Value) : ((List.range xs.size).filterMap fun (k : Nat) => xs[((xs.size : Int) - 1 + (k : Int) * -1).toNat]?).toArray = xs.toList.reverse.toArray := by
  congr 1
  by_cases h0 : xs.size = 0
  · have : xs.toList = [] := by
      apply List.length_eq_zero_iff.mp
      rw [Array.length_toList]; exact h0
    rw [h0, this]
    rfl
  rw [filterMap_all (g := fun k => (xs[xs.size - 1 - k]?).getD .none)]
  · apply List.ext_getElem?
    intro i
    by_cases hi : i < xs.size
    · rw [List.getElem?_map, List.getElem?_range hi, List.getElem?_reverse (by rw [Array.length_toList]; exact hi), Array.length_toList, Array.getElem?_toList]
      show some ((xs[xs.size - 1 - i]?).getD .none) = _
      rw [Array.getElem?_eq_getElem (by omega)]
      rfl
    · rw [List.getElem?_eq_none (by rw [List.length_map, List.length_range]; omega), List.getElem?_eq_none (by rw [List.length_reverse, Array.length_toList]; omega)]
  · intro k hk
    have hk' := List.mem_range.mp hk
    have e : ((xs.size : Int) - 1 + (k : Int) * -1).toNat = xs.size - 1 - k := by omega
    rw [e, Array.getElem?_eq_getElem (by omega)]
    rfl
theorem sliceApplied_back {sl : Addr} {vl vu vs : Value} {n : Nat} {Q : Int × Int × Nat → Shared → Prop} (hs : s.heap.IsSliceOf sl vl vu vs) (pl : IsPart vl none) (pu : IsPart vu none) (ps : IsPart vs (some (-1)))
    (h : Q ((n : Int) - 1, -1, n) s) : wpAny (model prog w) A (Builtin.Slice.sliceApplied (.ref sl) (pure (n : Int))) Q E s := by
  obtain ⟨os, hos, hcs, hds⟩ := id hs
  unfold Builtin.Slice.sliceApplied Builtin.Slice.sliceFields
  refine wpAny_bind (wpAny_bind (wpAny_field hos hds (x := vl) rfl (wpAny_bind (wpAny_field hos hds (x := vu) rfl (wpAny_bind (wpAny_field hos hds (x := vs) rfl (wpAny_pure ?_)))))))
  refine wpAny_bind (slicePart_ ps ?_)
  show wpAny _ _ (if ((-1 : Int) == 0) = true then _ else _) _ _ s
  rw [if_neg (by decide)]
  refine wpAny_bind (slicePart_ pl (wpAny_bind (slicePart_ pu (wpAny_bind (wpAny_pure ?_)))))
  have ha : Builtin.Slice.sliceAdjust none none (-1) (n : Int) = ((n : Int) - 1, -1) := rfl
  show wpAny _ _ (match Builtin.Slice.sliceAdjust none none (-1) (n : Int) with | (lo, hi) => pure (lo, (-1 : Int), Builtin.Slice.slicePlaces lo hi (-1))) _ _ s
  rw [ha]
  show wpAny _ _ (pure ((n : Int) - 1, (-1 : Int), Builtin.Slice.slicePlaces ((n : Int) - 1) (-1) (-1))) _ _ s
  have hp : Builtin.Slice.slicePlaces ((n : Int) - 1) (-1) (-1) = n := by
    unfold Builtin.Slice.slicePlaces
    rw [if_neg (by decide)]
    have : -(-1 : Int) = 1 := rfl
    rw [this, Int.ediv_one]
    split <;> omega
  rw [hp]
  exact wpAny_pure h
theorem getItem_tuple_back {t sl : Addr} {items : Array Value} {vl vu vs : Value} {Q : Value → Shared → Prop} (ht : IsTup s.heap t items) (hs : s.heap.IsSliceOf sl vl vu vs) (pl : IsPart vl none) (pu : IsPart vu none) (ps : IsPart vs (some (-1)))
    (h : Q (.ref s.heap.objs.size) { s with heap := s.heap.push { cls := .type "tuple", data := .seq items.toList.reverse.toArray } })
    (hsz : items.size ≤ sizeLine) : wpAny (model prog w) A (getItem (.ref t) (.ref sl)) Q E s := by
  have htake : sizeOk (.seq items.toList.reverse.toArray) := by
    show items.toList.reverse.toArray.size ≤ sizeLine
    rw [List.size_toArray, List.length_reverse, Array.length_toList]
    exact hsz
  obtain ⟨os, hos, hcs, hds⟩ := id hs
  have hTs : s.TypeIs (.ref sl) "slice" := ⟨os, hos, hcs⟩
  unfold getItem
  try with_reducible refine wpAny_holding ?_
  first | refine wpAny_bind (wpAny_pure ?_) | skip
  refine wpAny_bind (wpAny_sequenceKey ht.typeIs (by decide) ?_)
  refine wpAny_bind (wpAny_callSpecial?_slot (name := Str.ofString "__getitem__") ht.typeIs PyProof.Rows.slot_tuple_getitem
    (wpAny_call_entry PyProof.Rows.slot_tuple_getitem ht.typeIs entry_tuple_getitem ?_ (args_tuple_getitem _ _)))
  show wpAny _ _ (Builtin.Tuple.tupleItemsOf (.ref t) >>= _) _ _ s
  refine wpAny_bind (tupleItemsOf_ ht ?_)
  refine wpAny_bind (wpAny_typeOf hTs ?_)
  rw [if_pos (by decide)]
  refine wpAny_bind (sliceApplied_back hs pl pu ps ?_)
  have hno : ¬ ((((items.size : Int) - 1) == 0 && (-1 : Int) == 1 && items.size == items.size) = true) := by
    intro q
    rw [Bool.and_eq_true, Bool.and_eq_true] at q
    exact absurd q.1.2 (by decide)
  show wpAny _ _ (if (((items.size : Int) - 1) == 0 && (-1 : Int) == 1 && items.size == items.size) = true then _ else _) _ _ s
  rw [if_neg hno, pick_back]
  first
    | exact wpAny_bind (m := Builtin.Tuple.tupleExact _) (wpAny_newObj_type (wpAny_pure ⟨_, rfl, wpAny_pure h⟩) htake)
    | exact wpAny_bind (m := Builtin.Tuple.tupleExact _) (wpAny_newObj_type (wpAny_bind (wpAny_pure (wpAny_pure ⟨_, rfl, wpAny_pure h⟩))) htake)
    | exact wpAny_bind (wpAny_bind (m := Builtin.Tuple.tupleExact _) (wpAny_newObj_type (wpAny_pure (wpAny_pure ⟨_, rfl, wpAny_pure h⟩)) htake))
    | exact wpAny_bind (wpAny_bind (m := Builtin.Tuple.tupleExact _) (wpAny_newObj_type (wpAny_pure ⟨_, rfl, wpAny_pure h⟩) htake))
end
end HT
namespace Fx
open PySem PySem.Spec PyProof.Rows L2
section
variable {X : Cx} {J : Inf} {W : WX} {e : Expr} {f : M Rv} {pos : Pos}
/-- xs[::-1] of a list or a tuple: a new one -/
def tRevA (K : PySem.W.Frag) (te : TE) : TE := fun σ H Q => te σ H fun x H1 => ∃ a xs, x = .ref a ∧ ((SqL K H1 a xs ∧ ∀ p, H1 p = none → Q (.ref p) (upd H1 p (.lst xs.reverse))) ∨ (SqT K H1 a xs ∧ ∀ p o, H1 p = none → o.dict = none → Q (.ref p) (upd H1 p (.frz o (.tup xs.reverse)))))
theorem pe_revA {te : TE} {k : Nat} {p1 p2 p3 : Pos} (he : PE X e te) : PE X (.Subscript e (.Slice none none (some (.UnaryOp .USub (.Constant (.int 1) k p1) p2)) p3) pos) (tRevA X.K te) := by
  refine ⟨fun pins s σ H Q I h => ?_⟩
  refine Subscript_ (thn (he.run pins s σ H _ I h) fun v s1 ⟨x, H1, I1, r1, q1⟩ => ?_)
  obtain ⟨a, xs, ex, q⟩ := q1
  subst ex
  cases r1
  have hst : PO X (some (.UnaryOp .USub (.Constant (.int 1) k p1) p2)) (tPart (tUn (rU fun i => .int (-i)) (tC (.int 1)))) := po_some (pe_un un_neg pe_int)
  refine wpAny_Slice (thn (po_none.run pins s1 σ H1 (fun o H2 => o = none ∧ H2 = H1) I1 ⟨rfl, rfl⟩) fun vl s2 ⟨l, H2, I2, pl, el, e2⟩ => ?_)
  subst el e2
  refine thn (po_none.run pins s2 σ H2 (fun o H3 => o = none ∧ H3 = H2) I2 ⟨rfl, rfl⟩) fun vu s3 ⟨u, H3, I3, pu, eu, e3⟩ => ?_
  subst eu e3
  refine thn (hst.run pins s3 σ H3 (fun o H4 => o = some (-1) ∧ H4 = H3) I3 ⟨1, rfl, -1, rfl, rfl, rfl⟩) fun vs s4 ⟨o, H4, I4, ps, eo, e4⟩ => ?_
  subst eo e4
  have I5 : Inv X pins σ H4 { s4 with heap := s4.heap.push { cls := .type "slice", data := .fields #[vl, vu, vs] } } := I4.kept (t' := s4.toks) fun b ob q => Heap.get?_push_of_some _ q
  show wpAny (model X.prog X.w) X.A (subscriptTail e (.Slice none none (some (.UnaryOp .USub (.Constant (.int 1) k p1) p2)) p3) (.ref a) (.ref s4.heap.objs.size)) (EP X pins σ Q) X.xe { s4 with heap := s4.heap.push { cls := .type "slice", data := .fields #[vl, vu, vs] } }
  rcases q with ⟨hx, q⟩ | ⟨hx, q⟩
  · obtain ⟨its, r, ht, hz⟩ := I5.list hx
    have hlen := r.length
    refine tail_any (ops := [.ref a, .ref s4.heap.objs.size]) ht.isList.typeIs (PySem.slot_list_getitem.lookup) ?_ (by with_unfolding_all rfl)
    refine wpAny_getItem_list_slice ht.isList (Heap.IsSliceOf.new _ vl vu vs) pl pu ps (by decide) ?_ (by rw [List.size_toArray]; omega)
    rw [PySem.W.krv_pick]
    refine ⟨.ref _, _, I5.laid (t' := s4.toks) (o := .lst xs.reverse) (fun b ob q => Heap.get?_push_of_some _ q) (Nat.le_refl _) ?_, rfl, q _ (I5.hok.fresh (Nat.le_refl _))⟩
    exact ⟨by rw [List.length_reverse]; exact hz, _, 0, r.reverse, Heap.get?_push_size _ rfl⟩
  · obtain ⟨its, r, ht, hz⟩ := I5.tuple hx
    have hlen := r.length
    refine tail_any (ops := [.ref a, .ref s4.heap.objs.size]) ht.typeIs (PyProof.Rows.slot_tuple_getitem.lookup) ?_ (by with_unfolding_all rfl)
    refine HT.getItem_tuple_back ht (Heap.IsSliceOf.new _ vl vu vs) pl pu ps ?_ (by rw [List.size_toArray]; omega)
    have hg := Heap.get?_push_size (s4.heap.push { cls := .type "slice", data := .fields #[vl, vu, vs] }) (o := ({ cls := .type "tuple", data := .seq its.toArray.toList.reverse.toArray } : Obj)) rfl
    refine ⟨.ref _, _, I5.laid (t' := s4.toks) (o := .frz { cls := .type "tuple", data := .seq its.toArray.toList.reverse.toArray } (.tup xs.reverse)) (fun b ob q => Heap.get?_push_of_some _ q) (Nat.le_refl _) ?_, rfl, q _ _ (I5.hok.fresh (Nat.le_refl _)) rfl⟩
    refine ⟨hg, by rw [List.length_reverse]; exact hz, its.toArray.toList.reverse, ?_, ⟨_, hg, rfl, _, rfl⟩⟩
    have : its.toArray.toList = its := rfl
    rw [this]
    exact r.reverse
def hRevA : D → Option Rv
  | .list ds => some (.fresh (.list ds.reverse))
  | .tuple ds => some (.val (.tuple ds.reverse))
  | _ => none
theorem fe_revA {k : Nat} {p1 p2 p3 : Pos} (he : FE X J W e f) : FE X J W (.Subscript e (.Slice none none (some (.UnaryOp .USub (.Constant (.int 1) k p1) p2)) p3) pos) (fUn hRevA f) := by
  obtain ⟨t, pe, s⟩ := he
  refine ⟨_, pe_revA pe, fun σ H S fs Q res fs' R e p => ?_⟩
  refine s.bind R e p fun rx fs1 x H1 S1 R1 r1 e1 p1 st1 sh1 => ?_
  unfold rd1 at e1
  split at e1
  · rename_i d q1
    split at e1
    · rename_i rv q3
      cases e1
      unfold hRevA at q3
      split at q3
      · cases q3
        obtain ⟨a, xs, rfl, qa, ra⟩ := (r1.rd R1 q1).lst
        exact ⟨a, xs, rfl, .inl ⟨SqL.of qa, fun l hl => p1.toV.newL R1 ra.reverse hl⟩⟩
      · cases q3
        obtain ⟨a, xs, rfl, qa, _, ra⟩ := (r1.rd R1 q1).tup
        exact ⟨a, xs, rfl, .inr ⟨Same.seqT R1.sub qa, fun l o hl hd => p1.toV.newT R1 ra.reverse hl hd⟩⟩
      · cases q3
    · cases e1
  · cases e1
end
end Fx

namespace Fx
open PySem PySem.Spec PyProof.Rows L2
section
variable {X : Cx} {J : Inf} {W : WX} {e : Expr} {f : M Rv} {pos : Pos}
/-- t == () for any tuple t, whatever it holds -/
def rEqU (K : PySem.W.Frag) : R2 := fun x y H Q => ∃ (a b : Addr) (xs : List V), x = .ref a ∧ y = .ref b ∧ SqT K H a xs ∧ SqT K H b [] ∧ Q (.bl xs.isEmpty) H
theorem op_eqU (hu : X.A.units + 64 < cLine) : OpR X (compareOp .Eq) (rEqU X.K) := by
  intro pins s σ H x y v u Q I rx ry h
  obtain ⟨a, b, xs, rfl, rfl, ha, hb, q⟩ := h
  obtain rfl : v = Value.ref a := rx
  obtain rfl : u = Value.ref b := ry
  obtain ⟨its, r, ht, hz⟩ := I.tuple ha
  obtain ⟨its2, r2, ht2, hz2⟩ := I.tuple hb
  have e2 : its2 = [] := by
    have := r2.length
    exact List.length_eq_zero_iff.mp this.symm
  subst e2
  refine SeqAt.eq_tupleAt (e := fun _ => true) ht ht2 (by omega) (fun j h1 h2 => absurd h2 (by simp)) ?_
  refine ⟨.bl _, H, I, ?_, q⟩
  have hl := r.length
  cases xs with
  | nil =>
    have : its = [] := List.length_eq_zero_iff.mp hl.symm
    subst this
    rfl
  | cons z zs =>
    cases its with
    | nil => simp at hl
    | cons i is =>
      simp
      rfl
def hEqU : D → D → Option Rv
  | .tuple xs, .tuple [] => some (.val (.bool xs.isEmpty))
  | _, _ => none
theorem op2_eqU : Op2 X (rEqU X.K) hEqU := by
  intro J σ fs H S x y d e rv Q R rx ry h p
  unfold hEqU at h
  split at h
  · rename_i xs
    cases h
    obtain ⟨a, vs, rfl, qa, _, ra⟩ := rx.tup
    obtain ⟨b, ws, rfl, qb, _, rb⟩ := ry.tup
    cases rb
    refine ⟨a, b, vs, rfl, rfl, Same.seqT R.sub qa, Same.seqT R.sub qb, p.here R ?_⟩
    cases ra with
    | nil => exact Rp.bl _
    | cons _ _ => exact Rp.bl _
  · cases h
end
end Fx

namespace Fx
open PySem PySem.Spec PyProof.Rows L2
/-! ### things that can be shown -/
mutual
/-- how long the text is, at most -/
def cost : D → Nat
  | .list ds => costs ds + 3
  | .tuple ds => costs ds + 3
  | .dict _ => 10
  | .int _ => 2000
  | .str _ => 600
  | _ => 10
def costs : List D → Nat
  | [] => 0
  | d :: ds => cost d + 2 + costs ds
end
mutual
/-- lists (l) or empty dicts (not l), at most k deep -/
def rq (l : Bool) : Nat → D → Bool
  | _, .none => true
  | _, .bool _ => true
  | _, .int i => decide (i.natAbs.log2 < 1920)
  | _, .str x => PyData.strOk x && (decide ((PyData.shown (.str x)).length ≤ 600) && PyData.strOk (PyData.shown (.str x)))
  | k + 1, .list ds => l && rqs l k ds
  | k + 1, .tuple ds => rqs l k ds
  | k, .dict kvs => (!l && kvs.isEmpty) && decide (1 ≤ k)
  | 0, .list _ => false
  | 0, .tuple _ => false
def rqs (l : Bool) : Nat → List D → Bool
  | _, [] => true
  | k, d :: ds => rq l k d && rqs l k ds
end
theorem rqs_all {l : Bool} {k : Nat} : ∀ {ds : List D}, rqs l k ds = true ↔ ∀ d ∈ ds, rq l k d = true
  | [] => by simp [rqs]
  | d :: ds => by simp [rqs, rqs_all (ds := ds)]
mutual
theorem rq_shown {l : Bool} : ∀ {k : Nat} {d : D}, rq l k d = true → d.showable = true ∧ d.shown.length ≤ cost d ∧ d.depth ≤ k
  | _, .none, _ => ⟨rfl, by show (4 : Nat) ≤ 10; decide, Nat.zero_le _⟩
  | _, .bool b, _ => ⟨rfl, by cases b <;> decide, Nat.zero_le _⟩
  | _, .int i, h => by
    have h' : i.natAbs.log2 < 1920 := by simpa [rq] using h
    refine ⟨by simpa [PyData.showable] using h', ?_, Nat.zero_le _⟩
    have := int_text_len_1921 h'
    show (Str.ofString (toString i)).length ≤ 2000
    omega
  | _, .str x, h => by
    have h' : PyData.strOk x = true ∧ (PyData.shown (.str x)).length ≤ 600 ∧ PyData.strOk (PyData.shown (.str x)) = true := by simpa [rq] using h
    exact ⟨rfl, h'.2.1, Nat.zero_le _⟩
  | 0, .list ds, h => by simp [rq] at h
  | 0, .tuple ds, h => by simp [rq] at h
  | k + 1, .list ds, h => by
    have h' : l = true ∧ rqs l k ds = true := by simpa [rq] using h
    obtain ⟨a, b, c⟩ := rqs_shown h'.2
    refine ⟨by simpa [PyData.showable] using a, ?_, by simp only [PyData.depth]; omega⟩
    simp only [PyData.shown, cost]
    exact Nat.le_trans (listText_len_le _) (by have : (PyData.shownAll ds).length = ds.length := PyData.shownAll_length ds; omega)
  | k + 1, .tuple ds, h => by
    have h' : rqs l k ds = true := by simpa [rq] using h
    obtain ⟨a, b, c⟩ := rqs_shown h'
    refine ⟨by simpa [PyData.showable] using a, ?_, by simp only [PyData.depth]; omega⟩
    simp only [PyData.shown, cost]
    exact Nat.le_trans (tupleText_len_le _) (by have : (PyData.shownAll ds).length = ds.length := PyData.shownAll_length ds; omega)
  | k, .dict kvs, h => by
    have h' : (l = false ∧ kvs = []) ∧ 1 ≤ k := by simpa [rq] using h
    obtain ⟨⟨_, rfl⟩, hk⟩ := h'
    refine ⟨rfl, by decide, ?_⟩
    simp only [PyData.depth, PyData.depthKv]
    omega
theorem rqs_shown {l : Bool} : ∀ {k : Nat} {ds : List D}, rqs l k ds = true → PyData.showableAll ds = true ∧ ((PyData.shownAll ds).map (·.length)).sum + 2 * ds.length ≤ costs ds ∧ PyData.depthAll ds ≤ k
  | _, [], _ => ⟨rfl, by simp [PyData.shownAll, costs], by simp [PyData.depthAll]⟩
  | k, d :: ds, h => by
    have h' : rq l k d = true ∧ rqs l k ds = true := by simpa [rqs] using h
    obtain ⟨a, b, c⟩ := rq_shown h'.1
    obtain ⟨a2, b2, c2⟩ := rqs_shown h'.2
    refine ⟨by simp [PyData.showableAll, a, a2], ?_, by simp only [PyData.depthAll]; omega⟩
    simp only [PyData.shownAll, List.map_cons, List.sum_cons, List.length_cons, costs]
    omega
end
mutual
theorem rq_lay : ∀ {k : Nat} {d : D}, rq true k d = true → d.canLay0 = true
  | _, .none, _ => rfl
  | _, .bool b, _ => rfl
  | _, .int i, _ => rfl
  | _, .str x, h => by
    have h' : PyData.strOk x = true ∧ (PyData.shown (.str x)).length ≤ 600 ∧ PyData.strOk (PyData.shown (.str x)) = true := by simpa [rq] using h
    simpa [PyData.canLay0] using h'.1
  | 0, .list ds, h => by simp [rq] at h
  | 0, .tuple ds, h => by simp [rq] at h
  | k + 1, .list ds, h => by
    have h' : rqs true k ds = true := by simpa [rq] using h
    simpa [PyData.canLay0] using rqs_lay h'
  | k + 1, .tuple ds, h => by
    have h' : rqs true k ds = true := by simpa [rq] using h
    simpa [PyData.canLay0] using rqs_lay h'
  | k, .dict kvs, h => by simp [rq] at h
theorem rqs_lay : ∀ {k : Nat} {ds : List D}, rqs true k ds = true → PyData.canLayAll0 ds = true
  | _, [], _ => rfl
  | k, d :: ds, h => by
    have h' : rq true k d = true ∧ rqs true k ds = true := by simpa [rqs] using h
    simp [PyData.canLayAll0, rq_lay h'.1, rqs_lay h'.2]
end
mutual
theorem rq_okT : ∀ {k : Nat} {d : D}, rq false k d = true → okT d = true
  | _, .none, _ => rfl
  | _, .bool b, _ => rfl
  | _, .int i, _ => rfl
  | _, .str x, h => rfl
  | 0, .list ds, h => by simp [rq] at h
  | 0, .tuple ds, h => by simp [rq] at h
  | k + 1, .list ds, h => by simp [rq] at h
  | k + 1, .tuple ds, h => by
    have h' : rqs false k ds = true := by simpa [rq] using h
    simpa [okT] using rqs_okT h'
  | k, .dict kvs, h => by
    have h' : kvs = [] ∧ 1 ≤ k := by simpa [rq] using h
    rw [h'.1]; rfl
theorem rqs_okT : ∀ {k : Nat} {ds : List D}, rqs false k ds = true → okTs ds = true
  | _, [], _ => rfl
  | k, d :: ds, h => by
    have h' : rq false k d = true ∧ rqs false k ds = true := by simpa [rqs] using h
    simp [okTs, rq_okT h'.1, rqs_okT h'.2]
end
mutual
theorem rq_mono {l : Bool} : ∀ {k : Nat} {d : D}, rq l k d = true → rq l (k + 1) d = true
  | _, .none, _ => by simp [rq]
  | _, .bool b, _ => by simp [rq]
  | _, .int i, h => by simpa [rq] using h
  | _, .str x, h => by simpa [rq] using h
  | 0, .list ds, h => by simp [rq] at h
  | 0, .tuple ds, h => by simp [rq] at h
  | k + 1, .list ds, h => by
    have h' : l = true ∧ rqs l k ds = true := by simpa [rq] using h
    simp only [rq, h'.1, Bool.true_and]
    rw [h'.1] at h'
    exact rqs_mono h'.2
  | k + 1, .tuple ds, h => by
    have h' : rqs l k ds = true := by simpa [rq] using h
    simp only [rq]
    exact rqs_mono h'
  | k, .dict kvs, h => by
    have h' : (l = false ∧ kvs = []) ∧ 1 ≤ k := by simpa [rq] using h
    obtain ⟨⟨rfl, rfl⟩, hk⟩ := h'
    simp [rq]
theorem rqs_mono {l : Bool} : ∀ {k : Nat} {ds : List D}, rqs l k ds = true → rqs l (k + 1) ds = true
  | _, [], _ => by simp [rqs]
  | k, d :: ds, h => by
    have h' : rq l k d = true ∧ rqs l k ds = true := by simpa [rqs] using h
    simp [rqs, rq_mono h'.1, rqs_mono h'.2]
end
theorem rq_up {l : Bool} {k : Nat} {d : D} (h : rq l k d = true) : ∀ j, k ≤ j → rq l j d = true
  | 0, hj => by rw [show k = 0 by omega] at h; exact h
  | j + 1, hj => by
    by_cases q : k = j + 1
    · rw [← q]; exact h
    · exact rq_mono (rq_up h j (by omega))
theorem repr_rq {l : Bool} {k : Nat} {d : D} (h : rq l k d = true) (hk : k ≤ 60) (hc : cost d ≤ 2 ^ 24) : reprOk d = true := by
  obtain ⟨a, b, c⟩ := rq_shown h
  unfold reprOk
  have hz : d.shown.length ≤ sizeLine := Nat.le_trans b hc
  have hs : (SeqAt.shaped d || okT d) = true := by
    cases l with
    | true => rw [show SeqAt.shaped d = true by unfold SeqAt.shaped; rw [rq_lay h, decide_eq_true (by omega)]; rfl]; rfl
    | false => rw [rq_okT h, Bool.or_true]
  rw [a, decide_eq_true hz, decide_eq_true (show d.depth ≤ 60 by omega), hs]
  rfl
theorem rq_scr {l : Bool} {k : Nat} {d : D} (h : rq l k d = true) : notScr d = true := by
  cases d with
  | dict ds =>
    have h' : (l = false ∧ ds = []) ∧ 1 ≤ k := by simpa [rq] using h
    rw [h'.1.2]; rfl
  | _ => rfl
theorem rq_int {l : Bool} {i : Int} (k : Nat) (h : i.natAbs < 2 ^ 1900) : rq l k (.int i) = true := by
  unfold rq
  refine decide_eq_true ?_
  by_cases z : i.natAbs = 0
  · rw [z]; decide
  · exact Nat.lt_trans ((Nat.log2_lt z).mpr h) (by decide)
theorem costs_app : ∀ a b : List D, costs (a ++ b) = costs a + costs b
  | [], b => by simp [costs]
  | x :: a, b => by simp only [List.cons_append, costs, costs_app a b]; omega
theorem costs_le {N : Nat} : ∀ {ds : List D}, (∀ d ∈ ds, cost d ≤ N) → costs ds ≤ (N + 2) * ds.length
  | [], _ => by simp [costs]
  | d :: ds, h => by
    have h1 := h d List.mem_cons_self
    have h2 := costs_le fun e he => h e (List.mem_cons_of_mem _ he)
    rw [costs, List.length_cons, Nat.mul_succ]
    omega
theorem cost_tup {N : Nat} {ds : List D} (h : ∀ d ∈ ds, cost d ≤ N) : cost (.tuple ds) ≤ (N + 2) * ds.length + 3 := by
  rw [cost]; have := costs_le h; omega
theorem cost_lst {N : Nat} {ds : List D} (h : ∀ d ∈ ds, cost d ≤ N) : cost (.list ds) ≤ (N + 2) * ds.length + 3 := by
  rw [cost]; have := costs_le h; omega
/-! ### the text of a thing is plain -/
theorem strOk_app (a b : Str) : PyData.strOk (a ++ b) = (PyData.strOk a && PyData.strOk b) := by
  show Array.all (a.cps ++ b.cps) _ = _
  rw [Array.all_append]; rfl
theorem strOk_of (s : String) : PyData.strOk (Str.ofString s) = true := by
  rw [Str.ofString_eq_toList]
  show Array.all (s.toList.map Char.toNat).toArray _ = true
  rw [List.all_toArray, List.all_map, List.all_eq_true]
  intro c _
  have : c.toNat < 0x110000 := by
    have h := c.valid
    show c.val.toNat < 1114112
    rcases h with h | h
    · have : c.val.toNat < 0xd800 := h
      omega
    · exact h.2
  exact decide_eq_true this
theorem strOk_from : ∀ (ts : List Str) (k : Nat) (acc : Str), PyData.strOk acc = true → (∀ t ∈ ts, PyData.strOk t = true) → PyData.strOk (textFrom k acc ts) = true
  | [], _, _, h, _ => h
  | t :: ts, k, acc, h, ht => by
    refine strOk_from ts (k + 1) _ ?_ fun x hx => ht x (List.mem_cons_of_mem _ hx)
    rw [strOk_app, strOk_app, h, ht t List.mem_cons_self, strOk_of]; rfl
theorem strOk_join : ∀ (sep : Str) (ts : List Str), PyData.strOk sep = true → (∀ t ∈ ts, PyData.strOk t = true) → PyData.strOk (Str.join sep ts) = true
  | _, [], _, _ => by simp [Str.join, PyData.strOk, Str.empty]
  | _, [x], _, h => h x List.mem_cons_self
  | sep, x :: y :: r, hs, h => by
    show PyData.strOk (x ++ sep ++ Str.join sep (y :: r)) = true
    rw [strOk_app, strOk_app, h x List.mem_cons_self, hs, strOk_join sep (y :: r) hs fun t ht => h t (List.mem_cons_of_mem _ ht)]; rfl
mutual
theorem rq_plain {l : Bool} : ∀ {k : Nat} {d : D}, rq l k d = true → PyData.strOk d.shown = true
  | _, .none, _ => strOk_of _
  | _, .bool b, _ => by cases b <;> exact strOk_of _
  | _, .int i, h => strOk_of _
  | _, .str x, h => by
    have h' : PyData.strOk x = true ∧ (PyData.shown (.str x)).length ≤ 600 ∧ PyData.strOk (PyData.shown (.str x)) = true := by simpa [rq] using h
    exact h'.2.2
  | 0, .list ds, h => by simp [rq] at h
  | 0, .tuple ds, h => by simp [rq] at h
  | k + 1, .list ds, h => by
    have h' : l = true ∧ rqs l k ds = true := by simpa [rq] using h
    simp only [PyData.shown]
    unfold listText
    rw [strOk_app, strOk_from _ _ _ (strOk_of _) (rqs_plain h'.2), strOk_of]; rfl
  | k + 1, .tuple ds, h => by
    have h' : rqs l k ds = true := by simpa [rq] using h
    simp only [PyData.shown]
    unfold tupleText
    rw [strOk_app, strOk_app, strOk_of, strOk_join _ _ (strOk_of _) (rqs_plain h'), strOk_of]; rfl
  | k, .dict kvs, h => by
    have h' : (l = false ∧ kvs = []) ∧ 1 ≤ k := by simpa [rq] using h
    rw [h'.1.2]
    decide +kernel
theorem rqs_plain {l : Bool} : ∀ {k : Nat} {ds : List D}, rqs l k ds = true → ∀ t ∈ PyData.shownAll ds, PyData.strOk t = true
  | _, [], _ => by simp [PyData.shownAll]
  | k, d :: ds, h => by
    have h' : rq l k d = true ∧ rqs l k ds = true := by simpa [rqs] using h
    intro t ht
    simp only [PyData.shownAll, List.mem_cons] at ht
    rcases ht with rfl | ht
    · exact rq_plain h'.1
    · exact rqs_plain h'.2 t ht
end
theorem ne_shown {l : Bool} {k : Nat} {d : D} (h : rq l k d = true) : hNe (.str d.shown) (.str d.shown) = some (.val (.bool false)) := by
  have n1 : noB (.str d.shown) = true := by
    simp only [noB]; exact rq_plain h
  exact hNe_t (shaped_by 0 n1 (by simp [dpth]) (by decide)) (shaped_by 0 n1 (by simp [dpth]) (by decide)) (eqv_same n1)
end Fx

namespace Fx
open PySem PySem.Spec PyProof.Rows L2
/-! ### repr of lists with dicts in them -/
mutual
/-- dicts are empty -/
def okM : D → Bool
  | .none => true
  | .bool _ => true
  | .int _ => true
  | .str _ => true
  | .list ds => okMs ds
  | .tuple ds => okMs ds
  | .dict ds => ds.isEmpty
def okMs : List D → Bool
  | [] => true
  | d :: ds => okM d && okMs ds
end
section
variable {X : Cx} {pins : List (Addr × Obj)} {σ : L2.St} {H S : Hp} {s : Shared}
mutual
theorem rpK (I : Inv X pins σ H s) (sub : Same S H) : ∀ (d : D) (v : V) (u : Value), Rp X.K S v d → okM d = true → RelV v u → d.showable = true → d.shown.length ≤ sizeLine →
    ∃ bs, ReadAtMost s.heap d.depth bs ∧ ReprK X.prog X.w bs s.heap d.depth u d.shown ∧ ∃ as, Reads s.heap u d as
  | .none, _, _, h, _, r, hs, hz => by cases h; cases r; obtain ⟨bs, a, b⟩ := ReprK.of_reads (prog := X.prog) (w := X.w) (h₀ := s.heap) Reads.none hs (PyData.noDict_hsm (by simp [PyData.hasDict])) hz; exact ⟨bs, a, b, _, Reads.none⟩
  | .bool b, _, _, h, _, r, hs, hz => by cases h; cases r; obtain ⟨bs, a, c⟩ := ReprK.of_reads (prog := X.prog) (w := X.w) (h₀ := s.heap) (Reads.bool b) hs (PyData.noDict_hsm (by simp [PyData.hasDict])) hz; exact ⟨bs, a, c, _, Reads.bool b⟩
  | .int i, _, _, h, _, r, hs, hz => by cases h; obtain ⟨t, rfl⟩ := r; obtain ⟨bs, a, c⟩ := ReprK.of_reads (prog := X.prog) (w := X.w) (h₀ := s.heap) (Reads.int i t) hs (PyData.noDict_hsm (by simp [PyData.hasDict])) hz; exact ⟨bs, a, c, _, Reads.int i t⟩
  | .str x, _, _, h, _, r, hs, hz => by cases h; obtain ⟨t, rfl⟩ := r; obtain ⟨bs, a, c⟩ := ReprK.of_reads (prog := X.prog) (w := X.w) (h₀ := s.heap) (Reads.str x t) hs (PyData.noDict_hsm (by simp [PyData.hasDict])) hz; exact ⟨bs, a, c, _, Reads.str x t⟩
  | .list ds, _, _, h, ho, r, hs, hz => by
    cases h with
    | lst q ra =>
      cases r
      obtain ⟨_, its, n, rv, hg⟩ := (show ObjOk X.prog X.w H s.heap _ (.lst _) from I.hok _ _ (sub _ _ q))
      have hz' : (listText (PyData.shownAll ds)).length ≤ sizeLine := by simpa only [PyData.shown] using hz
      obtain ⟨bs, hb, hk, as, hr⟩ := rpKs I sub ds _ its ra (by simpa [okM] using ho) rv (by simpa [PyData.showable] using hs) (fun t ht => Nat.le_trans (listText_mem_le ht) hz')
      have rr : Reads s.heap (.ref _) (.list ds) _ := Reads.list hg rfl rfl (by simpa using hr)
      have hna := not_mem_of_deeper rr (by simp only [PyData.depth]; omega) hb
      refine ⟨_ :: bs, ReadAtMost.cons rr (by simp only [PyData.depth]; omega) hb, ?_, _, rr⟩
      simp only [PyData.depth, PyData.shown]
      cases its with
      | nil =>
        cases hr
        simp only [PyData.shownAll, listText_nil]
        exact ReprK.listEmpty hg rfl rfl
      | cons x l => exact ReprK.list hg rfl rfl hna (by simpa using hk.length_eq) (fun i y e => hk.item i y (by simpa using e))
  | .tuple ds, _, _, h, ho, r, hs, hz => by
    cases h with
    | tup q p ra =>
      cases r
      obtain ⟨its, rv, ⟨o, h1, hc, n, hd⟩, _⟩ := I.tuple (Same.seqT sub q)
      have hz' : (tupleText (PyData.shownAll ds)).length ≤ sizeLine := by simpa only [PyData.shown] using hz
      obtain ⟨bs, hb, hk, as, hr⟩ := rpKs I sub ds _ its ra (by simpa [okM] using ho) rv (by simpa [PyData.showable] using hs) (fun t ht => Nat.le_trans (tupleText_mem_le ht) hz')
      have rr : Reads s.heap (.ref _) (.tuple ds) _ := Reads.tuple h1 hc hd (by simpa using hr)
      have hna := not_mem_of_deeper rr (by simp only [PyData.depth]; omega) hb
      refine ⟨_ :: bs, ReadAtMost.cons rr (by simp only [PyData.depth]; omega) hb, ?_, _, rr⟩
      simp only [PyData.depth, PyData.shown]
      exact ReprK.tuple h1 hc hd hna (by simpa using hk)
  | .dict ds, _, _, h, ho, r, hs, hz => by
    have hds : ds = [] := by simpa [okM] using ho
    subst hds
    obtain ⟨as, hr, hn⟩ := rpT_reads I sub (.dict []) _ _ h rfl r
    obtain ⟨bs, a, c⟩ := ReprK.of_reads (prog := X.prog) (w := X.w) hr hs (fun _ => hn) hz
    exact ⟨bs, a, c, as, hr⟩
theorem rpKs (I : Inv X pins σ H s) (sub : Same S H) : ∀ (ds : List D) (vs : List V) (us : List Value), Rps X.K S vs ds → okMs ds = true → Vals vs us → PyData.showableAll ds = true → (∀ t ∈ PyData.shownAll ds, t.length ≤ sizeLine) →
    ∃ bs, ReadAtMost s.heap (PyData.depthAll ds) bs ∧ ReprAllK X.prog X.w bs s.heap (PyData.depthAll ds) us (PyData.shownAll ds) ∧ ∃ as, ReadsAll s.heap us ds as
  | [], _, _, h, _, r, _, _ => by cases h; cases r; exact ⟨[], (fun _ h => nomatch h), by simp only [PyData.shownAll]; exact .nil, _, ReadsAll.nil⟩
  | d :: ds, _, _, h, ho, r, hs, hz => by
    simp only [okMs, Bool.and_eq_true] at ho
    have hs' : d.showable = true ∧ PyData.showableAll ds = true := by simpa [PyData.showableAll] using hs
    cases h with
    | cons h1 h2 =>
      cases r with
      | cons r1 r2 =>
        obtain ⟨b1, hb1, k1, as, q1⟩ := rpK I sub d _ _ h1 ho.1 r1 hs'.1 (hz _ (by simp only [PyData.shownAll]; exact List.mem_cons_self ..))
        obtain ⟨b2, hb2, k2, bs, q2⟩ := rpKs I sub ds _ _ h2 ho.2 r2 hs'.2 (fun t ht => hz t (by simp only [PyData.shownAll]; exact List.mem_cons_of_mem _ ht))
        refine ⟨b1 ++ b2, ?_, ?_, _, ReadsAll.cons q1 q2⟩
        · intro b hm
          simp only [PyData.depthAll]
          rcases List.mem_append.mp hm with hm | hm
          · obtain ⟨d', as', r', hd'⟩ := hb1 b hm
            exact ⟨d', as', r', Nat.le_trans hd' (Nat.le_max_left _ _)⟩
          · obtain ⟨d', as', r', hd'⟩ := hb2 b hm
            exact ⟨d', as', r', Nat.le_trans hd' (Nat.le_max_right _ _)⟩
        · simp only [PyData.depthAll, PyData.shownAll]
          exact .cons ((k1.more fun b hb => List.mem_append_left _ hb).level_le (Nat.le_max_left _ _)) (k2.more_le (fun b hb => List.mem_append_right _ hb) (Nat.le_max_right _ _))
end
/-- what repr may be asked of -/
def reprM (d : D) : Bool := d.showable && decide (d.shown.length ≤ sizeLine) && decide (d.depth ≤ 60) && okM d
def rReprM (K : PySem.W.Frag) : List V → Hp → VK → Prop := fun xs H Q => ∃ (v : V) (d : D) (S : Hp), xs = [v] ∧ Same S H ∧ RpB K S H v d ∧ reprM d = true ∧ Q (.str d.shown) H
theorem call_reprM (hg : X.A.guards = some []) (hu : X.A.units + 65 < cLine) : CallR X (.builtin "repr") (rReprM X.K) := by
  intro pins s σ H xs us Q I r h
  obtain ⟨v, d, S, rfl, sub, rb, ok, q⟩ := h
  obtain ⟨u, rfl, ru⟩ := vals1 r
  unfold reprM at ok
  simp only [Bool.and_eq_true, decide_eq_true_eq] at ok
  obtain ⟨⟨⟨hs, hz⟩, hd⟩, hk⟩ := ok
  have fin : ∀ (h' : Heap) (t : Tok) (tk : Tok), (∀ b o, s.heap.get? b = some o → h'.get? b = some o) → EP X pins σ Q (.str d.shown t) { s with heap := h', toks := tk } := fun h' t tk k => ⟨.str d.shown, H, I.kept k, ⟨t, rfl⟩, q⟩
  cases d with
  | none => cases rb; cases ru; simp only [PyData.shown] at fin; exact PySem.P.repr_of_none (fin s.heap _ _ fun _ _ e => e)
  | bool b => cases rb; cases ru; simp only [PyData.shown] at fin; exact PySem.P.repr_of_bool (fin s.heap _ _ fun _ _ e => e)
  | int i => cases rb; obtain ⟨t, rfl⟩ := ru; simp only [PyData.shown] at fin; exact PySem.P.repr_of_int (by simpa [PyData.showable] using hs) (fin s.heap _ _ fun _ _ e => e)
  | str x => cases rb; obtain ⟨t, rfl⟩ := ru; simp only [PyData.shown] at fin hz; exact PySem.P.repr_of_str (fin s.heap _ _ fun _ _ e => e) hz
  | list ds =>
    obtain ⟨a, xs, rfl, q1, ra⟩ := rb
    obtain rfl : u = Value.ref a := ru
    obtain ⟨_, its, n, rv, hgt⟩ := (show ObjOk X.prog X.w H s.heap _ (.lst _) from I.hok _ _ q1)
    have hz' : (listText (PyData.shownAll ds)).length ≤ sizeLine := by simpa only [PyData.shown] using hz
    obtain ⟨bs, hb, hk, as, hr⟩ := rpKs I sub ds _ its ra (by simpa [okM] using hk) rv (by simpa [PyData.showable] using hs) (fun t ht => Nat.le_trans (listText_mem_le ht) hz')
    have rr : Reads s.heap (.ref _) (.list ds) _ := Reads.list hgt rfl rfl (by simpa using hr)
    have hna := not_mem_of_deeper rr (by simp only [PyData.depth]; omega) hb
    simp only [PyData.depth] at hd
    simp only [PyData.shown] at fin
    refine call_repr_slot (by omega) (show s.TypeIs (.ref a) "list" from ⟨_, hgt, rfl⟩) F.slot_list_repr.toG ?_
    cases its with
    | nil =>
      cases hr
      simp only [PyData.shownAll, listText_nil] at fin
      exact call_list_repr_empty ⟨_, hgt, rfl⟩ hgt rfl ⟨_, _, rfl, fin s.heap _ _ fun _ _ e => e⟩
    | cons x l =>
      exact call_list_reprK hgt rfl rfl hna (by simpa using hk.length_eq) (fun i y e => hk.item i y (by simpa using e)) hg (fun b _ => Clear.nil b) (by show X.A.units + 1 + _ < cLine; omega) (fun _ _ e => e) (fun h' t tk k => ⟨_, _, rfl, fin h' t tk k⟩) hz'
  | tuple ds =>
    cases rb with
    | tup q1 p ra =>
      obtain ⟨its, rv, ⟨o, h1, hc, n, hdd⟩, _⟩ := I.tuple (Same.seqT sub q1)
      have hz' : (tupleText (PyData.shownAll ds)).length ≤ sizeLine := by simpa only [PyData.shown] using hz
      obtain ⟨bs, hb, hk, as, hr⟩ := rpKs I sub ds _ its ra (by simpa [okM] using hk) rv (by simpa [PyData.showable] using hs) (fun t ht => Nat.le_trans (tupleText_mem_le ht) hz')
      cases ru
      have rr : Reads s.heap (.ref _) (.tuple ds) _ := Reads.tuple h1 hc hdd (by simpa using hr)
      have hna := not_mem_of_deeper rr (by simp only [PyData.depth]; omega) hb
      simp only [PyData.depth] at hd
      simp only [PyData.shown] at fin
      refine call_repr_slot (by omega) (show s.TypeIs (.ref _) "tuple" from ⟨o, h1, hc⟩) F.slot_tuple_repr ?_
      exact call_tuple_reprK h1 hc hdd hna (by simpa using hk) hg (fun b _ => Clear.nil b) (by show X.A.units + 1 + _ < cLine; omega) (fun _ _ e => e) (fun h' t tk k => ⟨_, _, rfl, fin h' t tk k⟩) hz'
  | dict ds =>
    have hds : ds = [] := by simpa [okM] using hk
    subst hds
    rcases rb with ⟨a, kvs, rfl, q1, q2⟩ | ⟨a, xs, es, rfl, e1, _⟩
    · obtain ⟨as, hr, hn⟩ := rpT_reads (S := H) I (Same.refl _) (.dict []) (.ref a) u (.dct q1 (by cases q2; exact .nil)) rfl ru
      obtain rfl : u = Value.ref a := ru
      exact repr_of_reads' hr hs (fun _ => hn) hg (by omega) (fun _ _ e => e) (fun h' t tk k => fin h' t tk k) hz
    · cases e1
def hReprM : List D → Option Rv
  | [d] => bif reprM d then some (.val (.str d.shown)) else none
  | _ => none
theorem opn_reprM : OpN X (rReprM X.K) hReprM := by
  intro J σ fs H S xs ds rv Q R r h p
  unfold hReprM at h
  split at h
  · rename_i d
    cases c : reprM d with
    | false => rw [c] at h; cases h
    | true =>
      rw [c] at h
      cases h
      obtain ⟨v, rfl, ry⟩ := r.one
      exact ⟨v, d, S, rfl, R.sub, ry, c, p.here R (Rp.str _)⟩
  · cases h
end
mutual
/-- lists (l) or empty dicts (not l), at most k deep -/
def rm : Nat → D → Bool
  | _, .none => true
  | _, .bool _ => true
  | _, .int i => decide (i.natAbs.log2 < 1920)
  | _, .str x => PyData.strOk x && (decide ((PyData.shown (.str x)).length ≤ 600) && PyData.strOk (PyData.shown (.str x)))
  | k + 1, .list ds => rms k ds
  | k + 1, .tuple ds => rms k ds
  | k, .dict kvs => kvs.isEmpty && decide (1 ≤ k)
  | 0, .list _ => false
  | 0, .tuple _ => false
def rms : Nat → List D → Bool
  | _, [] => true
  | k, d :: ds => rm k d && rms k ds
end
theorem rms_all {k : Nat} : ∀ {ds : List D}, rms k ds = true ↔ ∀ d ∈ ds, rm k d = true
  | [] => by simp [rms]
  | d :: ds => by simp [rms, rms_all (ds := ds)]
mutual
theorem rm_shown : ∀ {k : Nat} {d : D}, rm k d = true → d.showable = true ∧ d.shown.length ≤ cost d ∧ d.depth ≤ k
  | _, .none, _ => ⟨rfl, by show (4 : Nat) ≤ 10; decide, Nat.zero_le _⟩
  | _, .bool b, _ => ⟨rfl, by cases b <;> decide, Nat.zero_le _⟩
  | _, .int i, h => by
    have h' : i.natAbs.log2 < 1920 := by simpa [rm] using h
    refine ⟨by simpa [PyData.showable] using h', ?_, Nat.zero_le _⟩
    have := int_text_len_1921 h'
    show (Str.ofString (toString i)).length ≤ 2000
    omega
  | _, .str x, h => by
    have h' : PyData.strOk x = true ∧ (PyData.shown (.str x)).length ≤ 600 ∧ PyData.strOk (PyData.shown (.str x)) = true := by simpa [rm] using h
    exact ⟨rfl, h'.2.1, Nat.zero_le _⟩
  | 0, .list ds, h => by simp [rm] at h
  | 0, .tuple ds, h => by simp [rm] at h
  | k + 1, .list ds, h => by
    have h' : True ∧ rms k ds = true := ⟨trivial, by simpa [rm] using h⟩
    obtain ⟨a, b, c⟩ := rms_shown h'.2
    refine ⟨by simpa [PyData.showable] using a, ?_, by simp only [PyData.depth]; omega⟩
    simp only [PyData.shown, cost]
    exact Nat.le_trans (listText_len_le _) (by have : (PyData.shownAll ds).length = ds.length := PyData.shownAll_length ds; omega)
  | k + 1, .tuple ds, h => by
    have h' : rms k ds = true := by simpa [rm] using h
    obtain ⟨a, b, c⟩ := rms_shown h'
    refine ⟨by simpa [PyData.showable] using a, ?_, by simp only [PyData.depth]; omega⟩
    simp only [PyData.shown, cost]
    exact Nat.le_trans (tupleText_len_le _) (by have : (PyData.shownAll ds).length = ds.length := PyData.shownAll_length ds; omega)
  | k, .dict kvs, h => by
    have h' : (True ∧ kvs = []) ∧ 1 ≤ k := by simpa [rm] using h
    obtain ⟨⟨_, rfl⟩, hk⟩ := h'
    refine ⟨rfl, by decide, ?_⟩
    simp only [PyData.depth, PyData.depthKv]
    omega
theorem rms_shown : ∀ {k : Nat} {ds : List D}, rms k ds = true → PyData.showableAll ds = true ∧ ((PyData.shownAll ds).map (·.length)).sum + 2 * ds.length ≤ costs ds ∧ PyData.depthAll ds ≤ k
  | _, [], _ => ⟨rfl, by simp [PyData.shownAll, costs], by simp [PyData.depthAll]⟩
  | k, d :: ds, h => by
    have h' : rm k d = true ∧ rms k ds = true := by simpa [rms] using h
    obtain ⟨a, b, c⟩ := rm_shown h'.1
    obtain ⟨a2, b2, c2⟩ := rms_shown h'.2
    refine ⟨by simp [PyData.showableAll, a, a2], ?_, by simp only [PyData.depthAll]; omega⟩
    simp only [PyData.shownAll, List.map_cons, List.sum_cons, List.length_cons, costs]
    omega
end
mutual
theorem rm_okM : ∀ {k : Nat} {d : D}, rm k d = true → okM d = true
  | _, .none, _ => rfl
  | _, .bool b, _ => rfl
  | _, .int i, _ => rfl
  | _, .str x, h => rfl
  | 0, .list ds, h => by simp [rm] at h
  | 0, .tuple ds, h => by simp [rm] at h
  | k + 1, .list ds, h => by
    have h' : rms k ds = true := by simpa [rm] using h
    simpa [okM] using rms_okM h'
  | k + 1, .tuple ds, h => by
    have h' : rms k ds = true := by simpa [rm] using h
    simpa [okM] using rms_okM h'
  | k, .dict kvs, h => by
    have h' : kvs = [] ∧ 1 ≤ k := by simpa [rm] using h
    rw [h'.1]; rfl
theorem rms_okM : ∀ {k : Nat} {ds : List D}, rms k ds = true → okMs ds = true
  | _, [], _ => rfl
  | k, d :: ds, h => by
    have h' : rm k d = true ∧ rms k ds = true := by simpa [rms] using h
    simp [okMs, rm_okM h'.1, rms_okM h'.2]
end
mutual
theorem rm_mono : ∀ {k : Nat} {d : D}, rm k d = true → rm (k + 1) d = true
  | _, .none, _ => by simp [rm]
  | _, .bool b, _ => by simp [rm]
  | _, .int i, h => by simpa [rm] using h
  | _, .str x, h => by simpa [rm] using h
  | 0, .list ds, h => by simp [rm] at h
  | 0, .tuple ds, h => by simp [rm] at h
  | k + 1, .list ds, h => by
    have h' : True ∧ rms k ds = true := ⟨trivial, by simpa [rm] using h⟩
    simp only [rm]
    exact rms_mono h'.2
  | k + 1, .tuple ds, h => by
    have h' : rms k ds = true := by simpa [rm] using h
    simp only [rm]
    exact rms_mono h'
  | k, .dict kvs, h => by
    have h' : (True ∧ kvs = []) ∧ 1 ≤ k := by simpa [rm] using h
    obtain ⟨⟨_, rfl⟩, hk⟩ := h'
    simp [rm]
theorem rms_mono : ∀ {k : Nat} {ds : List D}, rms k ds = true → rms (k + 1) ds = true
  | _, [], _ => by simp [rms]
  | k, d :: ds, h => by
    have h' : rm k d = true ∧ rms k ds = true := by simpa [rms] using h
    simp [rms, rm_mono h'.1, rms_mono h'.2]
end
theorem rm_up {k : Nat} {d : D} (h : rm k d = true) : ∀ j, k ≤ j → rm j d = true
  | 0, hj => by rw [show k = 0 by omega] at h; exact h
  | j + 1, hj => by
    by_cases q : k = j + 1
    · rw [← q]; exact h
    · exact rm_mono (rm_up h j (by omega))
theorem repr_rm {k : Nat} {d : D} (h : rm k d = true) (hk : k ≤ 60) (hc : cost d ≤ 2 ^ 24) : reprM d = true := by
  obtain ⟨a, b, c⟩ := rm_shown h
  unfold reprM
  have hz : d.shown.length ≤ sizeLine := Nat.le_trans b hc
  rw [a, decide_eq_true hz, decide_eq_true (show d.depth ≤ 60 by omega), rm_okM h]
  rfl
theorem rm_scr {k : Nat} {d : D} (h : rm k d = true) : notScr d = true := by
  cases d with
  | dict ds =>
    have h' : (True ∧ ds = []) ∧ 1 ≤ k := by simpa [rm] using h
    rw [h'.1.2]; rfl
  | _ => rfl
theorem rm_int {i : Int} (k : Nat) (h : i.natAbs < 2 ^ 1900) : rm k (.int i) = true := by
  unfold rm
  refine decide_eq_true ?_
  by_cases z : i.natAbs = 0
  · rw [z]; decide
  · exact Nat.lt_trans ((Nat.log2_lt z).mpr h) (by decide)
mutual
theorem rm_plain : ∀ {k : Nat} {d : D}, rm k d = true → PyData.strOk d.shown = true
  | _, .none, _ => strOk_of _
  | _, .bool b, _ => by cases b <;> exact strOk_of _
  | _, .int i, h => strOk_of _
  | _, .str x, h => by
    have h' : PyData.strOk x = true ∧ (PyData.shown (.str x)).length ≤ 600 ∧ PyData.strOk (PyData.shown (.str x)) = true := by simpa [rm] using h
    exact h'.2.2
  | 0, .list ds, h => by simp [rm] at h
  | 0, .tuple ds, h => by simp [rm] at h
  | k + 1, .list ds, h => by
    have h' : True ∧ rms k ds = true := ⟨trivial, by simpa [rm] using h⟩
    simp only [PyData.shown]
    unfold listText
    rw [strOk_app, strOk_from _ _ _ (strOk_of _) (rms_plain h'.2), strOk_of]; rfl
  | k + 1, .tuple ds, h => by
    have h' : rms k ds = true := by simpa [rm] using h
    simp only [PyData.shown]
    unfold tupleText
    rw [strOk_app, strOk_app, strOk_of, strOk_join _ _ (strOk_of _) (rms_plain h'), strOk_of]; rfl
  | k, .dict kvs, h => by
    have h' : (True ∧ kvs = []) ∧ 1 ≤ k := by simpa [rm] using h
    rw [h'.1.2]
    decide +kernel
theorem rms_plain : ∀ {k : Nat} {ds : List D}, rms k ds = true → ∀ t ∈ PyData.shownAll ds, PyData.strOk t = true
  | _, [], _ => by simp [PyData.shownAll]
  | k, d :: ds, h => by
    have h' : rm k d = true ∧ rms k ds = true := by simpa [rms] using h
    intro t ht
    simp only [PyData.shownAll, List.mem_cons] at ht
    rcases ht with rfl | ht
    · exact rm_plain h'.1
    · exact rms_plain h'.2 t ht
end
theorem ne_shownM {k : Nat} {d : D} (h : rm k d = true) : hNe (.str d.shown) (.str d.shown) = some (.val (.bool false)) := by
  have n1 : noB (.str d.shown) = true := by
    simp only [noB]; exact rm_plain h
  exact hNe_t (shaped_by 0 n1 (by simp [dpth]) (by decide)) (shaped_by 0 n1 (by simp [dpth]) (by decide)) (eqv_same n1)
end Fx

namespace Fx
open PySem PySem.Spec PyProof.Rows L2
/-! ### t * k of a tuple: a new one -/
section
variable {X : Cx}
def rMulT (K : PySem.W.Frag) : R2 := fun x y H Q => ∃ l k xs, x = .ref l ∧ y = .int k ∧ SqT K H l xs ∧ xs ≠ [] ∧ 2 ≤ k ∧ k ≤ 1000 ∧ xs.length ≤ 1000 ∧ NewT (List.replicate k.toNat xs).flatten H Q
theorem op_mulT : OpR X (binaryOp .Mult) (rMulT X.K) := by
  intro pins s σ H x y v u Q I rx ry h
  obtain ⟨l, k, xs, rfl, rfl, hT, hne, h1, h2, hz, q⟩ := h
  cases rx
  obtain ⟨t, rfl⟩ := ry
  obtain ⟨its, r, ⟨⟨cls, dd, data, sl⟩, ho, hc, n, hd⟩, hs⟩ := I.tuple hT
  simp only at hc hd
  subst hc hd
  have hle : its.length = xs.length := r.length.symm
  have hn : its ≠ [] := fun e => hne (by
    rw [e] at hle
    exact List.eq_nil_of_length_eq_zero hle.symm)
  have hi : its.toArray.isEmpty = false := by
    cases its with
    | nil => exact absurd rfl hn
    | cons a b => rfl
  have hsz0 : its.toArray.size = xs.length := by rw [List.size_toArray, hle]
  have hm : ((its.toArray.size : Nat) : Int) * k ≤ 1000000 := by
    rw [hsz0]
    have a1 : ((xs.length : Nat) : Int) * k ≤ 1000 * k := Int.mul_le_mul_of_nonneg_right (by omega) (by omega)
    omega
  have flen : (List.replicate k.toNat its).flatten.length ≤ sizeLine := by
    rw [PyProof.Rows.lm_len_rep_flat, hle, sizeLine_eq]
    have a1 : k.toNat * xs.length ≤ 1000 * 1000 := Nat.mul_le_mul (by omega) hz
    omega
  have c0 : (decide (k < -(2 ^ 63)) || decide (k ≥ 2 ^ 63)) = false := by
    rw [decide_eq_false (by omega), decide_eq_false (by omega)] <;> rfl
  have c1 : (its.toArray.isEmpty || k == 1) = false := by
    rw [hi, Bool.false_or]
    exact beq_eq_false_iff_ne.mpr (by omega)
  have c2 : (decide (k ≤ 0) || its.toArray.isEmpty) = false := by
    rw [hi, Bool.or_false]
    exact decide_eq_false (by omega)
  have c4 : Builtin.Tuple.tupleTooMany (((its.toArray.size : Nat) : Int) * k) = false := by
    unfold Builtin.Tuple.tupleTooMany
    rw [sizeLine_eq]
    exact decide_eq_false (by omega)
  refine wpAny_binaryOp_repeat_ref (T := "tuple") (U := "int") (by decide) ⟨_, ho, rfl⟩ (fun s' => typeIs_int s' k t) noFill_tuple_mul F.fills_int_mul F.slot_int_rmul repeat_tuple F.slot_int_index.lookup
    (call_meets F.slot_int_rmul (typeIs_int s k t) F.entry_int_rmul (F.args_int_rmul_2 _ _) (int_rmul_tuple k t l its.toArray n dd sl)
      ⟨ho, rfl, ⟨_, ho, rfl⟩, call_meets F.slot_tuple_mul ⟨_, ho, rfl⟩ F.entry_tuple_mul (F.args_tuple_mul_2 _ _) (tuple_mulW l its.toArray n dd sl k t c0 c1 c2 (by omega) c4 (by rw [size_rep, List.size_toArray]; exact flen)) ⟨ho, ?_⟩⟩)
  rw [size_rep]
  exact NewT.ep q I (r.rep k.toNat) (by rw [PyProof.Rows.lm_len_rep_flat, sizeLine_eq]; have a1 : k.toNat * xs.length ≤ 1000 * 1000 := Nat.mul_le_mul (by omega) hz; omega)
def hMulT : D → D → Option Rv
  | .tuple (a :: as), .int k => if 2 ≤ k ∧ k ≤ 1000 ∧ (a :: as).length ≤ 1000 then some (.val (.tuple (List.replicate k.toNat (a :: as)).flatten)) else none
  | _, _ => none
theorem op2_mulT : Op2 X (rMulT X.K) hMulT := by
  intro J σ fs H S x y d e rv Q R rx ry h p
  unfold hMulT at h
  split at h
  · rename_i a as k
    split at h
    · rename_i hz
      cases h
      obtain ⟨l, xs, rfl, ha, _, ra⟩ := rx.tup
      exact ⟨l, k, xs, rfl, ry.int, Same.seqT R.sub ha, (fun e => by rw [e] at ra; cases ra), hz.1, hz.2.1, by rw [ra.length]; exact hz.2.2, fun l o hl hd => p.newT R (ra.rep _) hl hd⟩
    · cases h
  · cases h
end
end Fx

namespace Fx.L
open PySem PySem.Spec PyProof.Rows L2
noncomputable section
abbrev g_MOST_PIECES_changes : D := .int 12
abbrev g_MOST_PIECES_parts : D := .int 12
abbrev g_MOST_ROOT : D := .int 99
abbrev g_NOUGHT : D := .tuple [(.int 0), (.int 0), (.int 1)]
def d_p_is_whole : Fn := mkFn 1 1 (sRet (fAndV (fUn (hIsi "int") (fVar 0)) (fNotV (fUn (hIsi "bool") (fVar 0)))))
def d_p_divisor : Fn := mkFn 2 2 (sCons (sWhile (fB (fBin hNe (fVar 1) (fVal (.int 0)))) (sPar 0 1 (dCons (fVar 1) (dCons (fBin hMod (fVar 0) (fVar 1)) dNil))))
  (sRet (fNm hAbs (fCons (fVar 0) fNil))))
def d_p_sign_of : Fn := mkFn 2 5 (sCons (sUnp (fD (fVar 1)) (kTup 3 (kCons (kName 2) (kCons (kName 3) (kCons (kName 4) kNil)))))
  (sCons (sIf (fAnd (fB (fBin hEq (fVar 2) (fVal (.int 0)))) (fB (fBin hEq (fVar 3) (fVal (.int 0))))) (sRet (fVal (.int 0))) sNil)
  (sCons (sIf (fAnd (fB (fBin hGe (fVar 2) (fVal (.int 0)))) (fB (fBin hGe (fVar 3) (fVal (.int 0))))) (sRet (fVal (.int 1))) sNil)
  (sCons (sIf (fAnd (fB (fBin hLe (fVar 2) (fVal (.int 0)))) (fB (fBin hLe (fVar 3) (fVal (.int 0))))) (sRet (fUn hNeg (fVal (.int 1)))) sNil)
  (sCons (sIf (fB (fBin hEq (fBin hGt (fVar 2) (fVal (.int 0))) (fBin hGt (fBin hMulL (fVar 2) (fVar 2)) (fBin hMulL (fBin hMulL (fVar 3) (fVar 3)) (fVar 0))))) (sRet (fVal (.int 1))) sNil)
  (sRet (fUn hNeg (fVal (.int 1)))))))))
def d_cell : Fn := mkFn 2 2 (sCons (sIf (fB (fBin hLt (fVar 1) (fNm hLen (fCons (fVar 0) fNil)))) (sRet (fBin hIx (fVar 0) (fVar 1))) sNil)
  (sRet (fBin hAdd (fBin hMulL (fVal (.int 6151)) (fVar 1)) (fVal (.int 29)))))
def d_mix : Fn := mkFn 2 3 (sCons (sSet 2 (fBin hAdd (fBin hMulL (fBin hAdd (fVar 0) (fVal (.int 1))) (fVal (.int 40692))) (fBin hMulL (fVal (.int 104729)) (fVar 1))))
  (sCons (sSet 2 (fBin hAdd (fBin hMod (fBin hMulL (fVar 2) (fVar 2)) (fVal (.int 2147483399))) (fVar 1)))
  (sRet (fBin hMod (fBin hMulL (fVar 2) (fBin hAdd (fVar 2) (fVal (.int 31)))) (fVal (.int 2147483563))))))
def d_take : Fn := mkFn 2 4 (sCons (sUnp (fD (fNm hDivmod (fCons (fBin hIx (fVar 0) (fVal (.int 0))) (fCons (fVar 1) fNil)))) (kTup 2 (kCons (kName 2) (kCons (kName 3) kNil))))
  (sCons (slOk 0 (sStore 0 (fVar 2) (fVal (.int 0))))
  (sRet (fVar 3))))
def d_fit : Fn := mkFn 3 5 (sCons (sPar 3 4 (dCons (fNm hAbs (fCons (fVar 0) fNil)) (dCons (fNm hAbs (fCons (fVar 1) fNil)) dNil)))
  (sCons (sWhile (fB (fBin hGt (fVar 4) (fVal (.int 0)))) (sPar 3 4 (dCons (fVar 4) (dCons (fBin hMod (fVar 3) (fVar 4)) dNil))))
  (sCons (sSet 4 (fVar 2))
  (sCons (sWhile (fB (fBin hGt (fVar 4) (fVal (.int 0)))) (sPar 3 4 (dCons (fVar 4) (dCons (fBin hMod (fVar 3) (fVar 4)) dNil))))
  (sRet (fTup (dCons (fBin hFdiv (fVar 0) (fVar 3)) (dCons (fBin hFdiv (fVar 1) (fVar 3)) (dCons (fBin hFdiv (fVar 2) (fVar 3)) dNil)))))))))
def kd_kind : Cls → Option Str := fun c => if c = "NoChange" then some "change" else if c = "TooMany" then some "many" else if c = "Unlike" then some "unlike" else none
def d_due : Fn := mkFn 1 7 (sCons (sSet 1 (fTup dNil))
  (sCons (sSet 2 (fTup dNil))
  (sCons (sFor (fiS (fD (fVar 0))) (kTup 3 (kCons (kName 3) (kCons (kName 4) (kCons (kName 5) kNil)))) (sCons (sSet 2 (fBin hAdd (fVar 2) (fNm hTuple (fCons (fLc [6] (fiS (fD (fVar 5))) (kName 6) tYesF (fBin hAdd (fVar 6) (fNm hLen (fCons (fVar 1) fNil)))) fNil))))
  (sSet 1 (fBin hAdd (fVar 1) (fVar 4)))))
  (sRet (fTup (dCons (fBin hIx (fBin hIx (fVar 0) (fVal (.int 0))) (fVal (.int 0))) (dCons (fVar 1) (dCons (fVar 2) dNil))))))))
def d_p_is_root : Fn := mkFn 1 2 (sCons (sIf (fOr (fNot (fB (fCall d_p_is_whole (aCons (fVar 0) aNil)))) (fOr (fB (fBin hLt (fVar 0) (fVal (.int 0)))) (fOr (fB (fBin hEq (fVar 0) (fVal (.int 1)))) (fB (fBin hGt (fVar 0) (fVal g_MOST_ROOT)))))) (sRet (fVal (.bool false))) sNil)
  (sRet (fOrV (fBin hEq (fVar 0) (fVal (.int 0))) (fNotV (fNm hAny (fCons (fLc [1] (fiR2 (dCons (fVal (.int 2)) (dCons (fVal (.int 10)) dNil))) (kName 1) tYesF (fBin hEq (fBin hMod (fVar 0) (fBin hMulL (fVar 1) (fVar 1))) (fVal (.int 0)))) fNil))))))
def d_p_lowest : Fn := mkFn 3 4 (sCons (sSet 3 (fCall d_p_divisor (aCons (fCall d_p_divisor (aCons (fVar 0) (aCons (fVar 1) aNil))) (aCons (fVar 2) aNil))))
  (sCons (sIf (fB (fBin hLt (fVar 2) (fVal (.int 0)))) (sSet 3 (fBin hSub (fVal (.int 0)) (fVar 3))) sNil)
  (sRet (fTup (dCons (fBin hFdiv (fVar 0) (fVar 3)) (dCons (fBin hFdiv (fVar 1) (fVar 3)) (dCons (fBin hFdiv (fVar 2) (fVar 3)) dNil)))))))
def d_box : Fn := mkFn 2 5 (sCons (sSet 2 (fCall d_cell (aCons (fVar 0) (aCons (fVar 1) aNil))))
  (sCons (sIf (fB (fBin hEq (fBin hMod (fVar 2) (fVal (.int 2))) (fVal (.int 0)))) (sRet (fLst (dCons (fBin hFdiv (fVar 2) (fVal (.int 2))) dNil))) sNil)
  (sCons (sSet 3 (fVal (.int 0)))
  (sCons (sFor (fiR1 (dCons (fVal (.int 24)) dNil)) (kName 4) (sSet 3 (fBin hAdd (fBin hMulL (fVar 3) (fVal (.int 2147483647))) (fCall d_mix (aCons (fVar 2) (aCons (fVar 4) aNil))))))
  (sRet (fLst (dCons (fVar 3) dNil)))))))
def d_plus : Fn := mkFn 2 8 (sCons (sUnp (fD (fVar 0)) (kTup 3 (kCons (kName 2) (kCons (kName 3) (kCons (kName 4) kNil)))))
  (sCons (sUnp (fD (fVar 1)) (kTup 3 (kCons (kName 5) (kCons (kName 6) (kCons (kName 7) kNil)))))
  (sRet (fCall d_fit (aCons (fBin hAdd (fBin hMulL (fVar 2) (fVar 7)) (fBin hMulL (fVar 5) (fVar 4))) (aCons (fBin hAdd (fBin hMulL (fVar 3) (fVar 7)) (fBin hMulL (fVar 6) (fVar 4))) (aCons (fBin hMulL (fVar 4) (fVar 7)) aNil)))))))
def d_odd : Fn := mkFn 1 2 (sCons (sSet 1 (fLst (dCons (fVal .none) (dCons (fVal (.bool true)) (dCons (fVal (.bool false)) (dCons (fUn hNeg (fVal (.int 1))) (dCons (fVal (.int 0)) (dCons (fVal (.int 1)) (dCons (fVal (.int 2)) (dCons (fVal (.str "")) (dCons (fVal (.str "0")) (dCons (fTup dNil) (dCons (fTup (dCons (fVal (.int 0)) dNil)) (dCons (fTup (dCons (fVal (.int 0)) (dCons (fVal (.int 0)) (dCons (fVal (.int 1)) dNil)))) (dCons (fTup (dCons (fVal (.int 1)) (dCons (fVal (.int 0)) (dCons (fVal (.int 0)) dNil)))) (dCons (fTup (dCons (fVal (.int 0)) (dCons (fVal (.int 0)) (dCons (fVal (.int 2)) dNil)))) (dCons (fTup (dCons (fVal (.bool true)) (dCons (fVal (.int 0)) (dCons (fVal (.int 1)) dNil)))) (dCons (fLst (dCons (fVal (.int 0)) (dCons (fVal (.int 0)) (dCons (fVal (.int 1)) dNil)))) dNil))))))))))))))))))
  (sCons (sSet 1 (fBin hAdd (fVar 1) (fLst (dCons (fTup (dCons (fVal (.int 2)) (dCons (fVal (.int 0)) (dCons (fVal (.int 4)) dNil)))) (dCons (fTup (dCons (fUn hNeg (fVal (.int 1))) (dCons (fVal (.int 0)) (dCons (fVal (.int 1)) dNil)))) (dCons (fTup (dCons (fBin hPow (fVal (.int 10)) (fVal (.int 39))) (dCons (fVal (.int 0)) (dCons (fVal (.int 1)) dNil)))) (dCons (fTup (dCons (fVal (.int 1)) (dCons (fVal (.int 0)) (dCons (fUn hNeg (fVal (.int 1))) dNil)))) (dCons fDnew (dCons (fTup (dCons (fVal (.int 0)) (dCons (fVal (.int 0)) dNil))) (dCons (fTup (dCons (fVal (.int 0)) (dCons (fVal (.int 1)) (dCons (fVal (.int 1)) dNil)))) (dCons (fTup (dCons (fTup (dCons (fVal (.int 0)) (dCons (fVal (.int 0)) (dCons (fVal (.int 1)) dNil)))) dNil)) dNil)))))))))))
  (sCons (sSet 1 (fBin hAdd (fVar 1) (fLst (dCons (fBin hPow (fVal (.int 10)) (fVal (.int 39))) (dCons (fTup (dCons (fVal (.int 0)) (dCons (fVal (.int 0)) (dCons (fVal (.int 0)) dNil)))) dNil)))))
  (sRet (fBin hIx (fVar 1) (fCall d_take (aBoxN 0 (aCons (fNm hLen (fCons (fVar 1) fNil)) aNil))))))))
def d_p_is_number : Fn := mkFn 2 3 (sCons (sIf (fOr (fNot (fB (fUn (hIsi "tuple") (fVar 1)))) (fOr (fB (fBin hNe (fNm hLen (fCons (fVar 1) fNil)) (fVal (.int 3)))) (fNot (fB (fNm hAll (fCons (fLc [2] (fiS (fD (fVar 1))) (kName 2) tYesF (fCall d_p_is_whole (aCons (fVar 2) aNil))) fNil)))))) (sRet (fVal (.bool false))) sNil)
  (sCons (sIf (fOr (fB (fBin hLt (fBin hIx (fVar 1) (fVal (.int 2))) (fVal (.int 1)))) (fAnd (fB (fBin hEq (fVar 0) (fVal (.int 0)))) (fB (fBin hNe (fBin hIx (fVar 1) (fVal (.int 1))) (fVal (.int 0)))))) (sRet (fVal (.bool false))) sNil)
  (sRet (fBin hEq (fCall d_p_lowest (aCons (fBin hIx (fVar 1) (fVal (.int 0))) (aCons (fBin hIx (fVar 1) (fVal (.int 1))) (aCons (fBin hIx (fVar 1) (fVal (.int 2))) aNil)))) (fVar 1)))))
def d_p_plus : Fn := mkFn 3 9 (sCons (sUnp (fD (fVar 1)) (kTup 3 (kCons (kName 3) (kCons (kName 4) (kCons (kName 5) kNil)))))
  (sCons (sUnp (fD (fVar 2)) (kTup 3 (kCons (kName 6) (kCons (kName 7) (kCons (kName 8) kNil)))))
  (sRet (fCall d_p_lowest (aCons (fBin hAdd (fBin hMulL (fVar 3) (fVar 8)) (fBin hMulL (fVar 6) (fVar 5))) (aCons (fBin hAdd (fBin hMulL (fVar 4) (fVar 8)) (fBin hMulL (fVar 7) (fVar 5))) (aCons (fBin hMulL (fVar 5) (fVar 8)) aNil)))))))
def d_minus : Fn := mkFn 2 2 (sRet (fCall d_plus (aCons (fVar 0) (aCons (fTup (dCons (fBin hSub (fVal (.int 0)) (fBin hIx (fVar 1) (fVal (.int 0)))) (dCons (fBin hSub (fVal (.int 0)) (fBin hIx (fVar 1) (fVal (.int 1)))) (dCons (fBin hIx (fVar 1) (fVal (.int 2))) dNil)))) aNil))))
def d_p_minus : Fn := mkFn 3 6 (sCons (sUnp (fD (fVar 2)) (kTup 3 (kCons (kName 3) (kCons (kName 4) (kCons (kName 5) kNil)))))
  (sRet (fCall d_p_plus (aCons (fVar 0) (aCons (fVar 1) (aCons (fTup (dCons (fBin hSub (fVal (.int 0)) (fVar 3)) (dCons (fBin hSub (fVal (.int 0)) (fVar 4)) (dCons (fVar 5) dNil)))) aNil))))))
def d_less : Fn := mkFn 3 6 (sCons (sUnp (fD (fCall d_minus (aCons (fVar 1) (aCons (fVar 2) aNil)))) (kTup 3 (kCons (kName 3) (kCons (kName 4) (kCons (kName 5) kNil)))))
  (sCons (sIf (fAnd (fB (fBin hGe (fVar 3) (fVal (.int 0)))) (fB (fBin hGe (fVar 4) (fVal (.int 0))))) (sRet (fVal (.bool false))) sNil)
  (sCons (sIf (fAnd (fB (fBin hLe (fVar 3) (fVal (.int 0)))) (fB (fBin hLe (fVar 4) (fVal (.int 0))))) (sRet (fVal (.bool true))) sNil)
  (sCons (sIf (fB (fBin hLt (fVar 3) (fVal (.int 0)))) (sRet (fBin hGt (fBin hMulL (fVar 3) (fVar 3)) (fBin hMulL (fBin hMulL (fVar 4) (fVar 4)) (fVar 0)))) sNil)
  (sRet (fBin hLt (fBin hMulL (fVar 3) (fVar 3)) (fBin hMulL (fBin hMulL (fVar 4) (fVar 4)) (fVar 0))))))))
def d_p_less : Fn := mkFn 3 3 (sRet (fBin hLt (fCall d_p_sign_of (aCons (fVar 0) (aCons (fCall d_p_minus (aCons (fVar 0) (aCons (fVar 1) (aCons (fVar 2) aNil)))) aNil))) (fVal (.int 0))))
def d_long : Fn := mkFn 2 3 (sCons (sIf (fB (fBin hEq (fVar 1) (fVal (.int 0)))) (sRet (fCall d_fit (aCons (fBin hAdd (fVal (.int 1)) (fCall d_take (aBoxN 0 (aCons (fVal (.int 9)) aNil)))) (aCons (fVal (.int 0)) (aCons (fBin hAdd (fVal (.int 1)) (fCall d_take (aBoxN 0 (aCons (fVal (.int 3)) aNil)))) aNil))))) sNil)
  (sCons (sSet 2 (fCall d_fit (aCons (fBin hSub (fCall d_take (aBoxN 0 (aCons (fVal (.int 12)) aNil))) (fVal (.int 3))) (aCons (fBin hSub (fCall d_take (aBoxN 0 (aCons (fVal (.int 7)) aNil))) (fVal (.int 2))) (aCons (fBin hAdd (fVal (.int 1)) (fCall d_take (aBoxN 0 (aCons (fVal (.int 2)) aNil)))) aNil)))))
  (sCons (sIf (fB (fCall d_less (aCons (fVar 1) (aCons (fVar 2) (aCons (fTup (dCons (fVal (.int 0)) (dCons (fVal (.int 0)) (dCons (fVal (.int 1)) dNil)))) aNil))))) (sRet (fTup (dCons (fBin hSub (fVal (.int 0)) (fBin hIx (fVar 2) (fVal (.int 0)))) (dCons (fBin hSub (fVal (.int 0)) (fBin hIx (fVar 2) (fVal (.int 1)))) (dCons (fBin hIx (fVar 2) (fVal (.int 2))) dNil))))) sNil)
  (sRet (fBin hIx (fLst (dCons (fVar 2) (dCons (fTup (dCons (fVal (.int 1)) (dCons (fVal (.int 0)) (dCons (fVal (.int 1)) dNil)))) dNil))) (fNm hInt1 (fCons (fBin hEq (fVar 2) (fTup (dCons (fVal (.int 0)) (dCons (fVal (.int 0)) (dCons (fVal (.int 1)) dNil))))) fNil)))))))
def d_p_is_change : Fn := mkFn 1 5 (sCons (sIf (fOr (fNot (fB (fUn (hIsi "tuple") (fVar 0)))) (fOr (fB (fBin hNe (fNm hLen (fCons (fVar 0) fNil)) (fVal (.int 3)))) (fNot (fB (fCall d_p_is_root (aCons (fBin hIx (fVar 0) (fVal (.int 0))) aNil)))))) (sRet (fVal (.bool false))) sNil)
  (sCons (sUnp (fD (fVar 0)) (kTup 3 (kCons (kName 1) (kCons (kName 2) (kCons (kName 3) kNil)))))
  (sCons (sIf (fOr (fNot (fB (fUn (hIsi "tuple") (fVar 2)))) (fNot (fB (fChain hLe hLe (fVal (.int 1)) (fNm hLen (fCons (fVar 2) fNil)) (fVal g_MOST_PIECES_changes))))) (sRet (fVal (.bool false))) sNil)
  (sCons (sIf (fNot (fB (fNm hAll (fCons (fLc [4] (fiS (fD (fVar 2))) (kName 4) tYesF (fAndV (fCall d_p_is_number (aCons (fVar 1) (aCons (fVar 4) aNil))) (fCall d_p_less (aCons (fVar 1) (aCons (fVal g_NOUGHT) (aCons (fVar 4) aNil)))))) fNil)))) (sRet (fVal (.bool false))) sNil)
  (sCons (sIf (fOr (fNot (fB (fUn (hIsi "tuple") (fVar 3)))) (fNot (fB (fNm hAll (fCons (fLc [4] (fiS (fD (fVar 3))) (kName 4) tYesF (fCall d_p_is_whole (aCons (fVar 4) aNil))) fNil))))) (sRet (fVal (.bool false))) sNil)
  (sRet (fBin hEq (fNm hSorted (fCons (fVar 3) fNil)) (fUn hLR1 (fNm hLen (fCons (fVar 2) fNil))))))))))
def d_change : Fn := mkFn 3 10 (sCons (sSet 3 (fBin hIx (fVar 2) (fCall d_take (aBoxN 0 (aCons (fNm hLen (fCons (fVar 2) fNil)) aNil)))))
  (sCons (sSet 4 (fBin hAdd (fVal (.int 1)) (fCall d_take (aBoxN 0 (aCons (fVar 1) aNil)))))
  (sCons (sSet 5 (fNm hTuple (fCons (fLc [9] (fiR1 (dCons (fVar 4) dNil)) (kName 9) tYesF (fCall d_long (aBoxN 0 (aCons (fVar 3) aNil)))) fNil)))
  (sCons (sSet 6 (fUn hLR1 (fVar 4)))
  (sCons (sSet 7 (fLst dNil))
  (sCons (sSet 8 (fCall d_take (aBoxN 0 (aCons (fVal (.int 4)) aNil))))
  (sCons (sWhile (fB (fBin hNe (fVar 6) (fLst dNil))) (sDrop (fMt 7 hApp (dCons (fMt 6 hPopAt (dCons (fBin hIx (fLst (dCons (fCall d_take (aBoxN 0 (aCons (fNm hLen (fCons (fVar 6) fNil)) aNil))) (dCons (fBin hSub (fNm hLen (fCons (fVar 6) fNil)) (fVal (.int 1))) dNil))) (fNm hInt1 (fCons (fBin hEq (fVar 8) (fVal (.int 0))) fNil))) dNil)) dNil))))
  (sRet (fTup (dCons (fVar 3) (dCons (fVar 5) (dCons (fNm hTuple (fCons (fVar 7) fNil)) dNil))))))))))))
def d_p_side_by_side : Fn := mkFn 1 5 (sCons (sIf (fOr (fNot (fB (fUn (hIsi "list") (fVar 0)))) (fNot (fB (fChain hLe hLe (fVal (.int 1)) (fNm hLen (fCons (fVar 0) fNil)) (fVal g_MOST_PIECES_parts))))) (sRaise "NoChange") sNil)
  (sCons (sIf (fNot (fB (fNm hAll (fCons (fLc [3] (fiS (fD (fVar 0))) (kName 3) tYesF (fCall d_p_is_change (aCons (fVar 3) aNil))) fNil)))) (sRaise "NoChange") sNil)
  (sCons (sIf (fB (fNm hAny (fCons (fLc [3] (fiS (fD (fVar 0))) (kName 3) tYesF (fBin hNe (fBin hIx (fVar 3) (fVal (.int 0))) (fBin hIx (fBin hIx (fVar 0) (fVal (.int 0))) (fVal (.int 0))))) fNil))) (sRaise "Unlike") sNil)
  (sCons (sSet 1 (fTup dNil))
  (sCons (sSet 2 (fTup dNil))
  (sCons (sFor (fiS (fD (fVar 0))) (kName 3) (sCons (sSet 2 (fBin hAdd (fVar 2) (fNm hTuple (fCons (fLc [4] (fiS (fD (fBin hIx (fVar 3) (fVal (.int 2))))) (kName 4) tYesF (fBin hAdd (fVar 4) (fNm hLen (fCons (fVar 1) fNil)))) fNil))))
  (sSet 1 (fBin hAdd (fVar 1) (fBin hIx (fVar 3) (fVal (.int 1)))))))
  (sCons (sIf (fB (fBin hGt (fNm hLen (fCons (fVar 1) fNil)) (fVal g_MOST_PIECES_parts))) (sRaise "TooMany") sNil)
  (sRet (fTup (dCons (fBin hIx (fBin hIx (fVar 0) (fVal (.int 0))) (fVal (.int 0))) (dCons (fVar 1) (dCons (fVar 2) dNil))))))))))))
def d_said : Fn := mkFn 1 3 (sCons (sSet 1 (fVal (.str "told")))
  (sCons (sTryK 2 1 kd_kind (sDrop (fCall d_p_side_by_side (aCons (fVar 0) aNil))))
  (sRet (fVar 1))))
def d_law : Fn := mkFn 1 16 (sCons (sFor (fiR1 (dCons (fNm hMax2 (fCons (fVal (.int 1)) (fCons (fNm hMin2 (fCons (fNm hLen (fCons (fVar 0) fNil)) (fCons (fVal (.int 6)) fNil))) fNil))) dNil)) (kName 1) (sCons (sSet 2 (fCall d_box (aCons (fVar 0) (aCons (fVar 1) aNil))))
  (sCons (sSet 3 (fBin hIx (fLst (dCons (fVal (.int 0)) (dCons (fVal (.int 0)) (dCons (fVal (.int 0)) (dCons (fVal (.int 2)) (dCons (fVal (.int 3)) (dCons (fVal (.int 5)) (dCons (fVal (.int 7)) dNil)))))))) (fCall d_take (aBoxN 2 (aCons (fVal (.int 7)) aNil)))))
  (sCons (sSet 4 (fLc [15] (fiR1 (dCons (fBin hAdd (fVal (.int 1)) (fCall d_take (aBoxN 2 (aCons (fVal (.int 4)) aNil)))) dNil)) (kName 15) tYesF (fCall d_change (aBoxN 2 (aCons (fVal (.int 3)) (aCons (fLst (dCons (fVar 3) dNil)) aNil))))))
  (sCons (sSet 5 (fNm hList (fCons (fVar 4) fNil)))
  (sCons (sIf (fOr (fB (fBin hNe (fCall d_p_side_by_side (aCons (fVar 5) aNil)) (fCall d_due (aCons (fVar 4) aNil)))) (fB (fBin hNe (fVar 5) (fVar 4)))) (sRet (fVal (.bool false))) sNil)
  (sCons (sSet 6 (fBin hIx (fVar 4) (fVal (.int 0))))
  (sCons (sSet 7 (fCall d_odd (aBoxN 2 aNil)))
  (sCons (sSet 8 (fCall d_take (aBoxN 2 (aCons (fBin hAdd (fNm hLen (fCons (fVar 4) fNil)) (fVal (.int 1))) aNil))))
  (sCons (sSet 9 (fLst (dCons (fLst dNil) (dCons (fBin hMulL (fLst (dCons (fVar 6) dNil)) (fVal (.int 13))) (dCons (fNm hTuple (fCons (fVar 4) fNil)) (dCons (fVal .none) (dCons (fVar 7) (dCons (fBin hAdd (fBin hAdd (fSl (fVar 4) oNone (oSome (fVar 8))) (fLst (dCons (fVar 7) dNil))) (fSl (fVar 4) (oSome (fVar 8)) oNone)) (dCons (fVar 6) dNil)))))))))
  (sCons (sSet 9 (fBin hAdd (fVar 9) (fLst (dCons (fLst (dCons (fSl (fVar 6) (oSome (fVal (.int 1))) oNone) dNil)) (dCons (fLst (dCons (fNm hList (fCons (fVar 6) fNil)) dNil)) dNil)))))
  (sCons (sSet 9 (fBin hAdd (fVar 9) (fLst (dCons (fLst (dCons (fTup (dCons (fBin hIx (fVar 6) (fVal (.int 0))) (dCons (fBin hIx (fVar 6) (fVal (.int 1))) (dCons (fBin hAdd (fBin hIx (fVar 6) (fVal (.int 2))) (fTup (dCons (fVal (.int 0)) dNil))) dNil)))) dNil)) (dCons (fLst (dCons (fTup (dCons (fBin hIx (fVar 6) (fVal (.int 0))) (dCons (fBin hAdd (fSl (fBin hIx (fVar 6) (fVal (.int 1))) oNone (oSome (fUn hNeg (fVal (.int 1))))) (fTup (dCons (fTup (dCons (fVal (.int 0)) (dCons (fVal (.int 0)) (dCons (fVal (.int 1)) dNil)))) dNil))) (dCons (fBin hIx (fVar 6) (fVal (.int 2))) dNil)))) dNil)) dNil)))))
  (sCons (sFor (fiS (fD (fVar 9))) (kName 10) (sCons (sSet 11 (fNm hReprM (fCons (fVar 10) fNil)))
  (sIf (fOr (fB (fBin hNe (fCall d_said (aCons (fVar 10) aNil)) (fVal (.str "change")))) (fB (fBin hNe (fNm hReprM (fCons (fVar 10) fNil)) (fVar 11)))) (sRet (fVal (.bool false))) sNil)))
  (sCons (sSet 12 (fTup (dCons (fVal (.int 11)) (dCons (fBin hMulT (fTup (dCons (fTup (dCons (fVal (.int 1)) (dCons (fVal (.int 0)) (dCons (fVal (.int 1)) dNil)))) dNil)) (fVal (.int 3))) (dCons (fTup (dCons (fVal (.int 2)) (dCons (fVal (.int 1)) (dCons (fVal (.int 0)) dNil)))) dNil)))))
  (sCons (sSet 13 (fLst (dCons (fTup (dCons (fVal (.str "unlike")) (dCons (fBin hAdd (fVar 4) (fLst (dCons (fVar 12) dNil))) dNil))) (dCons (fTup (dCons (fVal (.str "unlike")) (dCons (fBin hAdd (fBin hMulL (fLst (dCons (fVar 12) dNil)) (fVal (.int 5))) (fLst (dCons (fVar 6) dNil))) dNil))) dNil))))
  (sCons (sSet 13 (fBin hAdd (fVar 13) (fLst (dCons (fTup (dCons (fVal (.str "many")) (dCons (fBin hMulL (fLst (dCons (fVar 12) dNil)) (fVal (.int 5))) dNil))) (dCons (fTup (dCons (fVal (.str "told")) (dCons (fBin hMulL (fLst (dCons (fVar 12) dNil)) (fVal (.int 4))) dNil))) dNil)))))
  (sCons (sDrop (fMt 13 hApp (dCons (fTup (dCons (fVal (.str "change")) (dCons (fBin hAdd (fVar 4) (fLst (dCons (fVar 12) (dCons (fVar 7) dNil)))) dNil))) dNil)))
  (sCons (sDrop (fMt 13 hApp (dCons (fTup (dCons (fVal (.str "change")) (dCons (fBin hAdd (fBin hMulL (fLst (dCons (fVar 12) dNil)) (fVal (.int 5))) (fLst (dCons (fVar 7) dNil))) dNil))) dNil)))
  (sCons (sDrop (fMt 13 hApp (dCons (fTup (dCons (fVal (.str "change")) (dCons (fBin hAdd (fBin hAdd (fLst (dCons (fVar 7) dNil)) (fBin hMulL (fLst (dCons (fVar 12) dNil)) (fVal (.int 5)))) (fVar 4)) dNil))) dNil)))
  (sFor (fiS (fD (fVar 13))) (kTup 2 (kCons (kName 14) (kCons (kName 10) kNil))) (sCons (sSet 11 (fNm hReprM (fCons (fVar 10) fNil)))
  (sIf (fOr (fB (fBin hNe (fCall d_said (aCons (fVar 10) aNil)) (fVar 14))) (fB (fBin hNe (fNm hReprM (fCons (fVar 10) fNil)) (fVar 11)))) (sRet (fVal (.bool false))) sNil))))))))))))))))))))))
  (sRet (fVal (.bool true))))
end
end Fx.L

namespace Fx.L
open PySem PySem.Spec PyProof.Rows L2
def topS (i : Nat) : Stmt := PySem.Challenge.pw_cutexchange_k82_laid_side_by_side.main.body.getD i (.Pass ⟨0, 0, 0, 0⟩)
abbrev s_p_is_whole : Stmt := topS 12
theorem sc_p_is_whole : FnScope ["thing"] ["thing"] (defScope s_p_is_whole) := ⟨rfl, rfl, rfl, by decide +kernel, rfl, by decide +kernel, by decide +kernel⟩
abbrev s_p_divisor : Stmt := topS 14
theorem sc_p_divisor : FnScope ["one", "other"] ["one", "other"] (defScope s_p_divisor) := ⟨rfl, rfl, rfl, by decide +kernel, rfl, by decide +kernel, by decide +kernel⟩
abbrev s_p_sign_of : Stmt := topS 19
theorem sc_p_sign_of : FnScope ["root", "one", "a", "b", "c"] ["root", "one"] (defScope s_p_sign_of) := ⟨rfl, rfl, rfl, by decide +kernel, rfl, by decide +kernel, by decide +kernel⟩
abbrev s_cell : Stmt := topS 28
theorem sc_cell : FnScope ["_law_script", "_law_k"] ["_law_script", "_law_k"] (defScope s_cell) := ⟨rfl, rfl, rfl, by decide +kernel, rfl, by decide +kernel, by decide +kernel⟩
abbrev s_mix : Stmt := topS 29
theorem sc_mix : FnScope ["_law_cell_here", "_law_k", "_law_number"] ["_law_cell_here", "_law_k"] (defScope s_mix) := ⟨rfl, rfl, rfl, by decide +kernel, rfl, by decide +kernel, by decide +kernel⟩
abbrev s_take : Stmt := topS 31
theorem sc_take : FnScope ["_law_box_here", "_law_many", "_law_left", "_law_digit"] ["_law_box_here", "_law_many"] (defScope s_take) := ⟨rfl, rfl, rfl, by decide +kernel, rfl, by decide +kernel, by decide +kernel⟩
abbrev s_fit : Stmt := topS 32
theorem sc_fit : FnScope ["_law_a", "_law_b", "_law_c", "_law_one", "_law_other"] ["_law_a", "_law_b", "_law_c"] (defScope s_fit) := ⟨rfl, rfl, rfl, by decide +kernel, rfl, by decide +kernel, by decide +kernel⟩
abbrev s_kind : Stmt := topS 39
theorem sc_kind : FnScope ["_law_e", "_law_kinds"] ["_law_e"] (defScope s_kind) := ⟨rfl, rfl, rfl, by decide +kernel, rfl, by decide +kernel, by decide +kernel⟩
theorem kd_cases_kind {q : Prop} {c : Cls} {w : Str} (h : kd_kind c = some w) (h0 : c = "NoChange" → q) (h1 : c = "TooMany" → q) (h2 : c = "Unlike" → q) : q := by
  unfold kd_kind at h
  by_cases e0 : c = "NoChange"
  · exact h0 e0
  rw [if_neg e0] at h
  by_cases e1 : c = "TooMany"
  · exact h1 e1
  rw [if_neg e1] at h
  by_cases e2 : c = "Unlike"
  · exact h2 e2
  rw [if_neg e2] at h
  cases h
theorem kd_word_kind_NoChange {w : Str} (h : kd_kind "NoChange" = some w) : w = "change" := by
  have e : kd_kind "NoChange" = some "change" := by decide +kernel
  exact Option.some.inj (h.symm.trans e)
theorem kd_word_kind_TooMany {w : Str} (h : kd_kind "TooMany" = some w) : w = "many" := by
  have e : kd_kind "TooMany" = some "many" := by decide +kernel
  exact Option.some.inj (h.symm.trans e)
theorem kd_word_kind_Unlike {w : Str} (h : kd_kind "Unlike" = some w) : w = "unlike" := by
  have e : kd_kind "Unlike" = some "unlike" := by decide +kernel
  exact Option.some.inj (h.symm.trans e)
abbrev s_due : Stmt := topS 40
theorem sc_due : FnScope ["_law_changes", "_law_longs", "_law_order", "_law_root", "_law_some", "_law_rows", "_law_piece"] ["_law_changes"] (defScope s_due) := ⟨rfl, rfl, rfl, by decide +kernel, rfl, by decide +kernel, by decide +kernel⟩
abbrev s_p_is_root : Stmt := topS 13
theorem sc_p_is_root : FnScope ["thing", "side"] ["thing"] (defScope s_p_is_root) := ⟨rfl, rfl, rfl, by decide +kernel, rfl, by decide +kernel, by decide +kernel⟩
abbrev s_p_lowest : Stmt := topS 15
theorem sc_p_lowest : FnScope ["a", "b", "c", "by"] ["a", "b", "c"] (defScope s_p_lowest) := ⟨rfl, rfl, rfl, by decide +kernel, rfl, by decide +kernel, by decide +kernel⟩
abbrev s_box : Stmt := topS 30
theorem sc_box : FnScope ["_law_script", "_law_k", "_law_here", "_law_number", "_law_j"] ["_law_script", "_law_k"] (defScope s_box) := ⟨rfl, rfl, rfl, by decide +kernel, rfl, by decide +kernel, by decide +kernel⟩
abbrev s_plus : Stmt := topS 33
theorem sc_plus : FnScope ["_law_one", "_law_other", "_law_a", "_law_b", "_law_c", "_law_d", "_law_e", "_law_f"] ["_law_one", "_law_other"] (defScope s_plus) := ⟨rfl, rfl, rfl, by decide +kernel, rfl, by decide +kernel, by decide +kernel⟩
abbrev s_odd : Stmt := topS 38
theorem sc_odd : FnScope ["_law_box_here", "_law_some"] ["_law_box_here"] (defScope s_odd) := ⟨rfl, rfl, rfl, by decide +kernel, rfl, by decide +kernel, by decide +kernel⟩
abbrev s_p_is_number : Stmt := topS 16
theorem sc_p_is_number : FnScope ["root", "thing", "one"] ["root", "thing"] (defScope s_p_is_number) := ⟨rfl, rfl, rfl, by decide +kernel, rfl, by decide +kernel, by decide +kernel⟩
abbrev s_p_plus : Stmt := topS 17
theorem sc_p_plus : FnScope ["root", "one", "other", "a", "b", "c", "d", "e", "f"] ["root", "one", "other"] (defScope s_p_plus) := ⟨rfl, rfl, rfl, by decide +kernel, rfl, by decide +kernel, by decide +kernel⟩
abbrev s_minus : Stmt := topS 34
theorem sc_minus : FnScope ["_law_one", "_law_other"] ["_law_one", "_law_other"] (defScope s_minus) := ⟨rfl, rfl, rfl, by decide +kernel, rfl, by decide +kernel, by decide +kernel⟩
abbrev s_p_minus : Stmt := topS 18
theorem sc_p_minus : FnScope ["root", "one", "other", "a", "b", "c"] ["root", "one", "other"] (defScope s_p_minus) := ⟨rfl, rfl, rfl, by decide +kernel, rfl, by decide +kernel, by decide +kernel⟩
abbrev s_less : Stmt := topS 35
theorem sc_less : FnScope ["_law_root", "_law_one", "_law_other", "_law_a", "_law_b", "_law_c"] ["_law_root", "_law_one", "_law_other"] (defScope s_less) := ⟨rfl, rfl, rfl, by decide +kernel, rfl, by decide +kernel, by decide +kernel⟩
abbrev s_p_less : Stmt := topS 20
theorem sc_p_less : FnScope ["root", "one", "other"] ["root", "one", "other"] (defScope s_p_less) := ⟨rfl, rfl, rfl, by decide +kernel, rfl, by decide +kernel, by decide +kernel⟩
abbrev s_long : Stmt := topS 36
theorem sc_long : FnScope ["_law_box_here", "_law_root", "_law_found"] ["_law_box_here", "_law_root"] (defScope s_long) := ⟨rfl, rfl, rfl, by decide +kernel, rfl, by decide +kernel, by decide +kernel⟩
abbrev s_p_is_change : Stmt := topS 23
theorem sc_p_is_change : FnScope ["thing", "root", "longs", "order", "one"] ["thing"] (defScope s_p_is_change) := ⟨rfl, rfl, rfl, by decide +kernel, rfl, by decide +kernel, by decide +kernel⟩
abbrev s_change : Stmt := topS 37
theorem sc_change : FnScope ["_law_box_here", "_law_most", "_law_roots", "_law_root", "_law_many", "_law_longs", "_law_left", "_law_order", "_law_way", "_law_piece"] ["_law_box_here", "_law_most", "_law_roots"] (defScope s_change) := ⟨rfl, rfl, rfl, by decide +kernel, rfl, by decide +kernel, by decide +kernel⟩
abbrev s_p_side_by_side : Stmt := topS 26
theorem sc_p_side_by_side : FnScope ["changes", "longs", "order", "change", "piece"] ["changes"] (defScope s_p_side_by_side) := ⟨rfl, rfl, rfl, by decide +kernel, rfl, by decide +kernel, by decide +kernel⟩
abbrev s_said : Stmt := topS 41
theorem sc_said : FnScope ["_law_thing", "_law_word", "_law_e"] ["_law_thing"] (defScope s_said) := ⟨rfl, rfl, rfl, by decide +kernel, rfl, by decide +kernel, by decide +kernel⟩
abbrev s_law : Stmt := topS 42
theorem sc_law : FnScope ["_law_script", "_law_k", "_law_box_here", "_law_root", "_law_changes", "_law_handed", "_law_one", "_law_odd_here", "_law_at", "_law_bad", "_law_thing", "_law_held", "_law_other", "_law_things", "_law_due_here", "_law_turn"] ["_law_script"] (defScope s_law) := ⟨rfl, rfl, rfl, by decide +kernel, rfl, by decide +kernel, by decide +kernel⟩
structure Tx (K : PySem.W.Frag) (mg : Str → Option Value) where
  p_is_whole : Gd K mg "is_whole" s_p_is_whole ["thing"]
  p_divisor : Gd K mg "divisor" s_p_divisor ["one", "other"]
  p_sign_of : Gd K mg "sign_of" s_p_sign_of ["root", "one"]
  cell : Gd K mg "_law_cell" s_cell ["_law_script", "_law_k"]
  mix : Gd K mg "_law_mix" s_mix ["_law_cell_here", "_law_k"]
  take : Gd K mg "_law_take" s_take ["_law_box_here", "_law_many"]
  fit : Gd K mg "_law_fit" s_fit ["_law_a", "_law_b", "_law_c"]
  kind : Gd K mg "_law_kind" s_kind ["_law_e"]
  due : Gd K mg "_law_due" s_due ["_law_changes"]
  p_is_root : Gd K mg "is_root" s_p_is_root ["thing"]
  p_lowest : Gd K mg "lowest" s_p_lowest ["a", "b", "c"]
  box : Gd K mg "_law_box" s_box ["_law_script", "_law_k"]
  plus : Gd K mg "_law_plus" s_plus ["_law_one", "_law_other"]
  odd : Gd K mg "_law_odd" s_odd ["_law_box_here"]
  p_is_number : Gd K mg "is_number" s_p_is_number ["root", "thing"]
  p_plus : Gd K mg "plus" s_p_plus ["root", "one", "other"]
  minus : Gd K mg "_law_minus" s_minus ["_law_one", "_law_other"]
  p_minus : Gd K mg "minus" s_p_minus ["root", "one", "other"]
  less : Gd K mg "_law_less" s_less ["_law_root", "_law_one", "_law_other"]
  p_less : Gd K mg "less" s_p_less ["root", "one", "other"]
  long : Gd K mg "_law_long" s_long ["_law_box_here", "_law_root"]
  p_is_change : Gd K mg "is_change" s_p_is_change ["thing"]
  change : Gd K mg "_law_change" s_change ["_law_box_here", "_law_most", "_law_roots"]
  p_side_by_side : Gd K mg "side_by_side" s_p_side_by_side ["changes"]
  said : Gd K mg "_law_said" s_said ["_law_thing"]
  law : Gd K mg "law" s_law ["_law_script"]
  g_MOST_PIECES_changes : Gc K mg "MOST_PIECES_changes" g_MOST_PIECES_changes
  g_MOST_PIECES_parts : Gc K mg "MOST_PIECES_parts" g_MOST_PIECES_parts
  g_MOST_ROOT : Gc K mg "MOST_ROOT" g_MOST_ROOT
  g_NOUGHT : Gc K mg "NOUGHT" g_NOUGHT
  c_NoChange : Cr K mg "NoChange"
  c_NoNumber : Cr K mg "NoNumber"
  c_NoPoint : Cr K mg "NoPoint"
  c_NoStep : Cr K mg "NoStep"
  c_NoWord : Cr K mg "NoWord"
  c_StretchError : Cr K mg "StretchError"
  c_TooMany : Cr K mg "TooMany"
  c_Unlike : Cr K mg "Unlike"
  e_NoChange : Ec K mg "NoChange"
  e_TooMany : Ec K mg "TooMany"
  e_Unlike : Ec K mg "Unlike"
  x_NoChange : ExcC K e_NoChange.C
  m_NoChange_StretchError : PySem.W.exmOne K (.ref e_NoChange.C) (.ref c_StretchError.C) = some true
  i_NoChange_NoChange : PySem.W.kitOne K (.ref e_NoChange.C) (.ref c_NoChange.C) = some true
  i_NoChange_NoNumber : PySem.W.kitOne K (.ref e_NoChange.C) (.ref c_NoNumber.C) = some false
  i_NoChange_NoPoint : PySem.W.kitOne K (.ref e_NoChange.C) (.ref c_NoPoint.C) = some false
  i_NoChange_NoStep : PySem.W.kitOne K (.ref e_NoChange.C) (.ref c_NoStep.C) = some false
  i_NoChange_NoWord : PySem.W.kitOne K (.ref e_NoChange.C) (.ref c_NoWord.C) = some false
  i_NoChange_TooMany : PySem.W.kitOne K (.ref e_NoChange.C) (.ref c_TooMany.C) = some false
  i_NoChange_Unlike : PySem.W.kitOne K (.ref e_NoChange.C) (.ref c_Unlike.C) = some false
  x_TooMany : ExcC K e_TooMany.C
  m_TooMany_StretchError : PySem.W.exmOne K (.ref e_TooMany.C) (.ref c_StretchError.C) = some true
  i_TooMany_NoChange : PySem.W.kitOne K (.ref e_TooMany.C) (.ref c_NoChange.C) = some false
  i_TooMany_NoNumber : PySem.W.kitOne K (.ref e_TooMany.C) (.ref c_NoNumber.C) = some false
  i_TooMany_NoPoint : PySem.W.kitOne K (.ref e_TooMany.C) (.ref c_NoPoint.C) = some false
  i_TooMany_NoStep : PySem.W.kitOne K (.ref e_TooMany.C) (.ref c_NoStep.C) = some false
  i_TooMany_NoWord : PySem.W.kitOne K (.ref e_TooMany.C) (.ref c_NoWord.C) = some false
  i_TooMany_TooMany : PySem.W.kitOne K (.ref e_TooMany.C) (.ref c_TooMany.C) = some true
  i_TooMany_Unlike : PySem.W.kitOne K (.ref e_TooMany.C) (.ref c_Unlike.C) = some false
  x_Unlike : ExcC K e_Unlike.C
  m_Unlike_StretchError : PySem.W.exmOne K (.ref e_Unlike.C) (.ref c_StretchError.C) = some true
  i_Unlike_NoChange : PySem.W.kitOne K (.ref e_Unlike.C) (.ref c_NoChange.C) = some false
  i_Unlike_NoNumber : PySem.W.kitOne K (.ref e_Unlike.C) (.ref c_NoNumber.C) = some false
  i_Unlike_NoPoint : PySem.W.kitOne K (.ref e_Unlike.C) (.ref c_NoPoint.C) = some false
  i_Unlike_NoStep : PySem.W.kitOne K (.ref e_Unlike.C) (.ref c_NoStep.C) = some false
  i_Unlike_NoWord : PySem.W.kitOne K (.ref e_Unlike.C) (.ref c_NoWord.C) = some false
  i_Unlike_TooMany : PySem.W.kitOne K (.ref e_Unlike.C) (.ref c_TooMany.C) = some false
  i_Unlike_Unlike : PySem.W.kitOne K (.ref e_Unlike.C) (.ref c_Unlike.C) = some true
  z_abs : mg "abs" = none
  z_all : mg "all" = none
  z_any : mg "any" = none
  z_bool : mg "bool" = none
  z_divmod : mg "divmod" = none
  z_int : mg "int" = none
  z_isinstance : mg "isinstance" = none
  z_len : mg "len" = none
  z_list : mg "list" = none
  z_max : mg "max" = none
  z_min : mg "min" = none
  z_range : mg "range" = none
  z_repr : mg "repr" = none
  z_sorted : mg "sorted" = none
  z_tuple : mg "tuple" = none
section
variable {P : Program} {w : World} {K : PySem.W.Frag} {mg : Str → Option Value} {base : Heap}
theorem ok_p_is_whole (T : Tx K mg) : FnS P w K mg base 1 T.p_is_whole.f T.p_is_whole.fd ["thing"] d_p_is_whole := by
  unfold d_p_is_whole
  exact fn_mk T.p_is_whole.fn sc_p_is_whole fun cdv A outer s H E J hr => by
    have tk : Takes (cxOf (L2.CX P w) P w K mg base ["thing"] "is_whole" (defScope s_p_is_whole) T.p_is_whole.f cdv A outer s H E) (fun cls d _ H' => E cls d H') := takes_of rfl rfl rfl rfl
    have hps : PassesOwn (model P w) (cxOf (L2.CX P w) P w K mg base ["thing"] "is_whole" (defScope s_p_is_whole) T.p_is_whole.f cdv A outer s H E).A (cxOf (L2.CX P w) P w K mg base ["thing"] "is_whole" (defScope s_p_is_whole) T.p_is_whole.f cdv A outer s H E).env (cxOf (L2.CX P w) P w K mg base ["thing"] "is_whole" (defScope s_p_is_whole) T.p_is_whole.f cdv A outer s H E).xe := passes_of rfl
    skip
    exact (fss_one (fs_ret (fe_and (fe_isi (by rfl) T.z_isinstance (by rfl) T.z_int boot_int (fe_var 0)) (fe_one (fe_not (fe_isi (by rfl) T.z_isinstance (by rfl) T.z_bool boot_bool (fe_var 0)))))))
theorem ok_p_divisor (T : Tx K mg) : FnS P w K mg base 1 T.p_divisor.f T.p_divisor.fd ["one", "other"] d_p_divisor := by
  unfold d_p_divisor
  exact fn_mk T.p_divisor.fn sc_p_divisor fun cdv A outer s H E J hr => by
    have tk : Takes (cxOf (L2.CX P w) P w K mg base ["one", "other"] "divisor" (defScope s_p_divisor) T.p_divisor.f cdv A outer s H E) (fun cls d _ H' => E cls d H') := takes_of rfl rfl rfl rfl
    have hps : PassesOwn (model P w) (cxOf (L2.CX P w) P w K mg base ["one", "other"] "divisor" (defScope s_p_divisor) T.p_divisor.f cdv A outer s H E).A (cxOf (L2.CX P w) P w K mg base ["one", "other"] "divisor" (defScope s_p_divisor) T.p_divisor.f cdv A outer s H E).env (cxOf (L2.CX P w) P w K mg base ["one", "other"] "divisor" (defScope s_p_divisor) T.p_divisor.f cdv A outer s H E).xe := passes_of rfl
    have hu := hr.units
    exact (fss_cons (fs_while hps (ft_cmp (op_neD hu) op2_ne (nomark _) (fe_var 1) fe_int) (fss_one (fs_par (i := 0) (j := 1) rfl sc_p_divisor.nd (by decide) (fds_cons (fe_var 1) (fds_cons (fe_op op_modN op2_mod (fe_var 0) (fe_var 1)) fds_nil)))))
  (fss_one (fs_ret (fe_callB call_abs opn_abs (by rfl) T.z_abs boot_abs (fa_cons (fe_var 0) fa_nil)))))
theorem ok_p_sign_of (T : Tx K mg) : FnS P w K mg base 1 T.p_sign_of.f T.p_sign_of.fd ["root", "one"] d_p_sign_of := by
  unfold d_p_sign_of
  exact fn_mk T.p_sign_of.fn sc_p_sign_of fun cdv A outer s H E J hr => by
    have tk : Takes (cxOf (L2.CX P w) P w K mg base ["root", "one", "a", "b", "c"] "sign_of" (defScope s_p_sign_of) T.p_sign_of.f cdv A outer s H E) (fun cls d _ H' => E cls d H') := takes_of rfl rfl rfl rfl
    have hps : PassesOwn (model P w) (cxOf (L2.CX P w) P w K mg base ["root", "one", "a", "b", "c"] "sign_of" (defScope s_p_sign_of) T.p_sign_of.f cdv A outer s H E).A (cxOf (L2.CX P w) P w K mg base ["root", "one", "a", "b", "c"] "sign_of" (defScope s_p_sign_of) T.p_sign_of.f cdv A outer s H E).env (cxOf (L2.CX P w) P w K mg base ["root", "one", "a", "b", "c"] "sign_of" (defScope s_p_sign_of) T.p_sign_of.f cdv A outer s H E).xe := passes_of rfl
    have hu := hr.units
    exact (fss_cons (fs_unp (fe_var 1) (fg_tup rfl (fgs_cons (fg_name (i := 2) sc_p_sign_of.nd) (fgs_cons (fg_name (i := 3) sc_p_sign_of.nd) (fgs_cons (fg_name (i := 4) sc_p_sign_of.nd) fgs_nil)))))
  (fss_cons (fs_if (FW.ft (fw_and (ft_cmp (op_eqD hu) op2_eq (nomark _) (fe_var 2) fe_int) (fw_and1 (ft_cmp (op_eqD hu) op2_eq (nomark _) (fe_var 3) fe_int)))) (fss_one (fs_ret fe_int)) fss_nil)
  (fss_cons (fs_if (FW.ft (fw_and (ft_cmp op_ge op2_ge (nomark _) (fe_var 2) fe_int) (fw_and1 (ft_cmp op_ge op2_ge (nomark _) (fe_var 3) fe_int)))) (fss_one (fs_ret fe_int)) fss_nil)
  (fss_cons (fs_if (FW.ft (fw_and (ft_cmp op_le op2_le (nomark _) (fe_var 2) fe_int) (fw_and1 (ft_cmp op_le op2_le (nomark _) (fe_var 3) fe_int)))) (fss_one (fs_ret (fe_un un_neg op1_neg fe_int))) fss_nil)
  (fss_cons (fs_if (ft_cmp (op_eqD hu) op2_eq (nomark _) (fe_cmp op_gt op2_gt (nomark _) (fe_var 2) fe_int) (fe_cmp op_gt op2_gt (nomark _) (fe_op op_mulU op2_mul (fe_var 2) (fe_var 2)) (fe_op op_mulU op2_mul (fe_op op_mulU op2_mul (fe_var 3) (fe_var 3)) (fe_var 0)))) (fss_one (fs_ret fe_int)) fss_nil)
  (fss_one (fs_ret (fe_un un_neg op1_neg fe_int))))))))
theorem ok_cell (T : Tx K mg) : FnS P w K mg base 1 T.cell.f T.cell.fd ["_law_script", "_law_k"] d_cell := by
  unfold d_cell
  exact fn_mk T.cell.fn sc_cell fun cdv A outer s H E J hr => by
    have tk : Takes (cxOf (L2.CX P w) P w K mg base ["_law_script", "_law_k"] "_law_cell" (defScope s_cell) T.cell.f cdv A outer s H E) (fun cls d _ H' => E cls d H') := takes_of rfl rfl rfl rfl
    have hps : PassesOwn (model P w) (cxOf (L2.CX P w) P w K mg base ["_law_script", "_law_k"] "_law_cell" (defScope s_cell) T.cell.f cdv A outer s H E).A (cxOf (L2.CX P w) P w K mg base ["_law_script", "_law_k"] "_law_cell" (defScope s_cell) T.cell.f cdv A outer s H E).env (cxOf (L2.CX P w) P w K mg base ["_law_script", "_law_k"] "_law_cell" (defScope s_cell) T.cell.f cdv A outer s H E).xe := passes_of rfl
    skip
    exact (fss_cons (fs_if (ft_cmp op_lt op2_lt (nomark _) (fe_var 1) (fe_callB call_len opn_len (by rfl) T.z_len boot_len (fa_cons (fe_var 0) fa_nil))) (fss_one (fs_ret (fe_ix (fe_var 0) (fe_var 1)))) fss_nil)
  (fss_one (fs_ret (fe_op op_addU op2_add (fe_op op_mulU op2_mul fe_int (fe_var 1)) fe_int))))
theorem ok_mix (T : Tx K mg) : FnS P w K mg base 1 T.mix.f T.mix.fd ["_law_cell_here", "_law_k"] d_mix := by
  unfold d_mix
  exact fn_mk T.mix.fn sc_mix fun cdv A outer s H E J hr => by
    have tk : Takes (cxOf (L2.CX P w) P w K mg base ["_law_cell_here", "_law_k", "_law_number"] "_law_mix" (defScope s_mix) T.mix.f cdv A outer s H E) (fun cls d _ H' => E cls d H') := takes_of rfl rfl rfl rfl
    have hps : PassesOwn (model P w) (cxOf (L2.CX P w) P w K mg base ["_law_cell_here", "_law_k", "_law_number"] "_law_mix" (defScope s_mix) T.mix.f cdv A outer s H E).A (cxOf (L2.CX P w) P w K mg base ["_law_cell_here", "_law_k", "_law_number"] "_law_mix" (defScope s_mix) T.mix.f cdv A outer s H E).env (cxOf (L2.CX P w) P w K mg base ["_law_cell_here", "_law_k", "_law_number"] "_law_mix" (defScope s_mix) T.mix.f cdv A outer s H E).xe := passes_of rfl
    skip
    exact (fss_cons (fs_set (i := 2) sc_mix.nd (fe_op op_addU op2_add (fe_op op_mulU op2_mul (fe_op op_addU op2_add (fe_var 0) fe_int) fe_int) (fe_op op_mulU op2_mul fe_int (fe_var 1))))
  (fss_cons (fs_set (i := 2) sc_mix.nd (fe_op op_addU op2_add (fe_op op_modN op2_mod (fe_op op_mulU op2_mul (fe_var 2) (fe_var 2)) fe_int) (fe_var 1)))
  (fss_one (fs_ret (fe_op op_modN op2_mod (fe_op op_mulU op2_mul (fe_var 2) (fe_op op_addU op2_add (fe_var 2) fe_int)) fe_int)))))
theorem ok_take (T : Tx K mg) : FnS P w K mg base 1 T.take.f T.take.fd ["_law_box_here", "_law_many"] d_take := by
  unfold d_take
  exact fn_mk T.take.fn sc_take fun cdv A outer s H E J hr => by
    have tk : Takes (cxOf (L2.CX P w) P w K mg base ["_law_box_here", "_law_many", "_law_left", "_law_digit"] "_law_take" (defScope s_take) T.take.f cdv A outer s H E) (fun cls d _ H' => E cls d H') := takes_of rfl rfl rfl rfl
    have hps : PassesOwn (model P w) (cxOf (L2.CX P w) P w K mg base ["_law_box_here", "_law_many", "_law_left", "_law_digit"] "_law_take" (defScope s_take) T.take.f cdv A outer s H E).A (cxOf (L2.CX P w) P w K mg base ["_law_box_here", "_law_many", "_law_left", "_law_digit"] "_law_take" (defScope s_take) T.take.f cdv A outer s H E).env (cxOf (L2.CX P w) P w K mg base ["_law_box_here", "_law_many", "_law_left", "_law_digit"] "_law_take" (defScope s_take) T.take.f cdv A outer s H E).xe := passes_of rfl
    skip
    exact (fss_cons (fs_unp (fe_callB call_divmodF opn_divmod (by rfl) T.z_divmod boot_divmod (fa_cons (fe_ix (fe_var 0) fe_int) (fa_cons (fe_var 1) fa_nil))) (fg_tup rfl (fgs_cons (fg_name (i := 2) sc_take.nd) (fgs_cons (fg_name (i := 3) sc_take.nd) fgs_nil))))
  (fss_cons (fs_store (i := 0) (fe_var 2) fe_int)
  (fss_one (fs_ret (fe_var 3)))))
theorem ok_fit (T : Tx K mg) : FnS P w K mg base 1 T.fit.f T.fit.fd ["_law_a", "_law_b", "_law_c"] d_fit := by
  unfold d_fit
  exact fn_mk T.fit.fn sc_fit fun cdv A outer s H E J hr => by
    have tk : Takes (cxOf (L2.CX P w) P w K mg base ["_law_a", "_law_b", "_law_c", "_law_one", "_law_other"] "_law_fit" (defScope s_fit) T.fit.f cdv A outer s H E) (fun cls d _ H' => E cls d H') := takes_of rfl rfl rfl rfl
    have hps : PassesOwn (model P w) (cxOf (L2.CX P w) P w K mg base ["_law_a", "_law_b", "_law_c", "_law_one", "_law_other"] "_law_fit" (defScope s_fit) T.fit.f cdv A outer s H E).A (cxOf (L2.CX P w) P w K mg base ["_law_a", "_law_b", "_law_c", "_law_one", "_law_other"] "_law_fit" (defScope s_fit) T.fit.f cdv A outer s H E).env (cxOf (L2.CX P w) P w K mg base ["_law_a", "_law_b", "_law_c", "_law_one", "_law_other"] "_law_fit" (defScope s_fit) T.fit.f cdv A outer s H E).xe := passes_of rfl
    skip
    exact (fss_cons (fs_par (i := 3) (j := 4) rfl sc_fit.nd (by decide) (fds_cons (fe_callB call_abs opn_abs (by rfl) T.z_abs boot_abs (fa_cons (fe_var 0) fa_nil)) (fds_cons (fe_callB call_abs opn_abs (by rfl) T.z_abs boot_abs (fa_cons (fe_var 1) fa_nil)) fds_nil)))
  (fss_cons (fs_while hps (ft_cmp op_gt op2_gt (nomark _) (fe_var 4) fe_int) (fss_one (fs_par (i := 3) (j := 4) rfl sc_fit.nd (by decide) (fds_cons (fe_var 4) (fds_cons (fe_op op_modN op2_mod (fe_var 3) (fe_var 4)) fds_nil)))))
  (fss_cons (fs_set (i := 4) sc_fit.nd (fe_var 2))
  (fss_cons (fs_while hps (ft_cmp op_gt op2_gt (nomark _) (fe_var 4) fe_int) (fss_one (fs_par (i := 3) (j := 4) rfl sc_fit.nd (by decide) (fds_cons (fe_var 4) (fds_cons (fe_op op_modN op2_mod (fe_var 3) (fe_var 4)) fds_nil)))))
  (fss_one (fs_ret (fe_tup (fds_cons (fe_op op_fdivAll op2_fdiv (fe_var 0) (fe_var 3)) (fds_cons (fe_op op_fdivAll op2_fdiv (fe_var 1) (fe_var 3)) (fds_cons (fe_op op_fdivAll op2_fdiv (fe_var 2) (fe_var 3)) fds_nil))))))))))
theorem kind_kind_NoChange (T : Tx K mg) (p : Addr × Obj) (hz : Zc (.ref T.e_NoChange.C) none p.2) (hf : ∃ vs, p.2.data = .fields vs) : FnP P w K mg base (L2.CX P w) 1 T.kind.f T.kind.fd ["_law_e"] p (spK p.1 "change") := by
  obtain ⟨oc, od, kV, doc, pm, an, cdv, ct, osl, e, lk, hcd⟩ := T.kind.fn.ex
  rw [e] at lk ⊢
  refine fn_ofP lk hcd sc_kind (fun vs H Q E h => by obtain ⟨rfl, _⟩ := h; rfl) (fun A outer s H vs Q E hr h => ?_)
  obtain ⟨rfl, q⟩ := h
  have hu65 : (A.deeper (envOfC "_law_kind" (defScope s_kind) s.heap.objs.size T.kind.f cdv)).units + 65 < cLine := by have := hr.un; omega
  refine ⟨_, (pss_cons (ps_set (i := 1) sc_kind.nd rfl (.inl rfl) (pe_lst (pa_cons (pe_callB (call_isP (T.x_NoChange) List.mem_cons_self hz hf) (by rfl) T.z_isinstance boot_isinstance (pa_cons (pe_var (i := 0) rfl (.inl rfl)) (pa_cons (pe_glob (v := .ref T.c_NoPoint.C) (by rfl) T.c_NoPoint.m rfl) pa_nil))) (pa_cons (pe_callB (call_isP (T.x_NoChange) List.mem_cons_self hz hf) (by rfl) T.z_isinstance boot_isinstance (pa_cons (pe_var (i := 0) rfl (.inl rfl)) (pa_cons (pe_glob (v := .ref T.c_NoNumber.C) (by rfl) T.c_NoNumber.m rfl) pa_nil))) (pa_cons (pe_callB (call_isP (T.x_NoChange) List.mem_cons_self hz hf) (by rfl) T.z_isinstance boot_isinstance (pa_cons (pe_var (i := 0) rfl (.inl rfl)) (pa_cons (pe_glob (v := .ref T.c_NoWord.C) (by rfl) T.c_NoWord.m rfl) pa_nil))) (pa_cons (pe_callB (call_isP (T.x_NoChange) List.mem_cons_self hz hf) (by rfl) T.z_isinstance boot_isinstance (pa_cons (pe_var (i := 0) rfl (.inl rfl)) (pa_cons (pe_glob (v := .ref T.c_NoChange.C) (by rfl) T.c_NoChange.m rfl) pa_nil))) pa_nil)))))) (pss_cons (ps_set (i := 1) sc_kind.nd rfl (.inl rfl) (pe_op op_cat (pe_var (i := 1) rfl (.inl rfl)) (pe_lst (pa_cons (pe_callB (call_isP (T.x_NoChange) List.mem_cons_self hz hf) (by rfl) T.z_isinstance boot_isinstance (pa_cons (pe_var (i := 0) rfl (.inl rfl)) (pa_cons (pe_glob (v := .ref T.c_TooMany.C) (by rfl) T.c_TooMany.m rfl) pa_nil))) (pa_cons (pe_callB (call_isP (T.x_NoChange) List.mem_cons_self hz hf) (by rfl) T.z_isinstance boot_isinstance (pa_cons (pe_var (i := 0) rfl (.inl rfl)) (pa_cons (pe_glob (v := .ref T.c_NoStep.C) (by rfl) T.c_NoStep.m rfl) pa_nil))) (pa_cons (pe_callB (call_isP (T.x_NoChange) List.mem_cons_self hz hf) (by rfl) T.z_isinstance boot_isinstance (pa_cons (pe_var (i := 0) rfl (.inl rfl)) (pa_cons (pe_glob (v := .ref T.c_Unlike.C) (by rfl) T.c_Unlike.m rfl) pa_nil))) (pa_cons pe_bl pa_nil))))))) (pss_one (ps_ret (pe_ix ix_list (pe_lst (pa_cons pe_str (pa_cons pe_str (pa_cons pe_str (pa_cons pe_str (pa_cons pe_str (pa_cons pe_str (pa_cons pe_str (pa_cons pe_str pa_nil))))))))) (pe_bm F.plainAttrs_list F.slot_list_index F.type_list_index (mt_indexD hu65) (pe_var (i := 1) rfl (.inl rfl)) (pa_cons pe_bl pa_nil)) (fun _ _ => rfl)))))), ?_⟩
  exact kind1_eval (bs1 := [false, false, false, true]) (bs2 := [false, false, false, true]) (ws := ["point", "number", "word", "change", "many", "step", "unlike", "other"]) (j := 3) (fun σ H Q hs q => ⟨_, hs, _, _, _, rfl, fun u hu => hu, T.i_NoChange_NoPoint, ⟨_, hs, _, _, _, rfl, fun u hu => hu, T.i_NoChange_NoNumber, ⟨_, hs, _, _, _, rfl, fun u hu => hu, T.i_NoChange_NoWord, ⟨_, hs, _, _, _, rfl, fun u hu => hu, T.i_NoChange_NoChange, q⟩⟩⟩⟩) (fun σ H Q hs q => ⟨_, hs, _, _, _, rfl, fun u hu => hu, T.i_NoChange_TooMany, ⟨_, hs, _, _, _, rfl, fun u hu => hu, T.i_NoChange_NoStep, ⟨_, hs, _, _, _, rfl, fun u hu => hu, T.i_NoChange_Unlike, q⟩⟩⟩) (fun σ H Q q => q) (by decide) (by decide) rfl (by decide) rfl q
theorem kind_kind_TooMany (T : Tx K mg) (p : Addr × Obj) (hz : Zc (.ref T.e_TooMany.C) none p.2) (hf : ∃ vs, p.2.data = .fields vs) : FnP P w K mg base (L2.CX P w) 1 T.kind.f T.kind.fd ["_law_e"] p (spK p.1 "many") := by
  obtain ⟨oc, od, kV, doc, pm, an, cdv, ct, osl, e, lk, hcd⟩ := T.kind.fn.ex
  rw [e] at lk ⊢
  refine fn_ofP lk hcd sc_kind (fun vs H Q E h => by obtain ⟨rfl, _⟩ := h; rfl) (fun A outer s H vs Q E hr h => ?_)
  obtain ⟨rfl, q⟩ := h
  have hu65 : (A.deeper (envOfC "_law_kind" (defScope s_kind) s.heap.objs.size T.kind.f cdv)).units + 65 < cLine := by have := hr.un; omega
  refine ⟨_, (pss_cons (ps_set (i := 1) sc_kind.nd rfl (.inl rfl) (pe_lst (pa_cons (pe_callB (call_isP (T.x_TooMany) List.mem_cons_self hz hf) (by rfl) T.z_isinstance boot_isinstance (pa_cons (pe_var (i := 0) rfl (.inl rfl)) (pa_cons (pe_glob (v := .ref T.c_NoPoint.C) (by rfl) T.c_NoPoint.m rfl) pa_nil))) (pa_cons (pe_callB (call_isP (T.x_TooMany) List.mem_cons_self hz hf) (by rfl) T.z_isinstance boot_isinstance (pa_cons (pe_var (i := 0) rfl (.inl rfl)) (pa_cons (pe_glob (v := .ref T.c_NoNumber.C) (by rfl) T.c_NoNumber.m rfl) pa_nil))) (pa_cons (pe_callB (call_isP (T.x_TooMany) List.mem_cons_self hz hf) (by rfl) T.z_isinstance boot_isinstance (pa_cons (pe_var (i := 0) rfl (.inl rfl)) (pa_cons (pe_glob (v := .ref T.c_NoWord.C) (by rfl) T.c_NoWord.m rfl) pa_nil))) (pa_cons (pe_callB (call_isP (T.x_TooMany) List.mem_cons_self hz hf) (by rfl) T.z_isinstance boot_isinstance (pa_cons (pe_var (i := 0) rfl (.inl rfl)) (pa_cons (pe_glob (v := .ref T.c_NoChange.C) (by rfl) T.c_NoChange.m rfl) pa_nil))) pa_nil)))))) (pss_cons (ps_set (i := 1) sc_kind.nd rfl (.inl rfl) (pe_op op_cat (pe_var (i := 1) rfl (.inl rfl)) (pe_lst (pa_cons (pe_callB (call_isP (T.x_TooMany) List.mem_cons_self hz hf) (by rfl) T.z_isinstance boot_isinstance (pa_cons (pe_var (i := 0) rfl (.inl rfl)) (pa_cons (pe_glob (v := .ref T.c_TooMany.C) (by rfl) T.c_TooMany.m rfl) pa_nil))) (pa_cons (pe_callB (call_isP (T.x_TooMany) List.mem_cons_self hz hf) (by rfl) T.z_isinstance boot_isinstance (pa_cons (pe_var (i := 0) rfl (.inl rfl)) (pa_cons (pe_glob (v := .ref T.c_NoStep.C) (by rfl) T.c_NoStep.m rfl) pa_nil))) (pa_cons (pe_callB (call_isP (T.x_TooMany) List.mem_cons_self hz hf) (by rfl) T.z_isinstance boot_isinstance (pa_cons (pe_var (i := 0) rfl (.inl rfl)) (pa_cons (pe_glob (v := .ref T.c_Unlike.C) (by rfl) T.c_Unlike.m rfl) pa_nil))) (pa_cons pe_bl pa_nil))))))) (pss_one (ps_ret (pe_ix ix_list (pe_lst (pa_cons pe_str (pa_cons pe_str (pa_cons pe_str (pa_cons pe_str (pa_cons pe_str (pa_cons pe_str (pa_cons pe_str (pa_cons pe_str pa_nil))))))))) (pe_bm F.plainAttrs_list F.slot_list_index F.type_list_index (mt_indexD hu65) (pe_var (i := 1) rfl (.inl rfl)) (pa_cons pe_bl pa_nil)) (fun _ _ => rfl)))))), ?_⟩
  exact kind1_eval (bs1 := [false, false, false, false]) (bs2 := [true, false, false, true]) (ws := ["point", "number", "word", "change", "many", "step", "unlike", "other"]) (j := 4) (fun σ H Q hs q => ⟨_, hs, _, _, _, rfl, fun u hu => hu, T.i_TooMany_NoPoint, ⟨_, hs, _, _, _, rfl, fun u hu => hu, T.i_TooMany_NoNumber, ⟨_, hs, _, _, _, rfl, fun u hu => hu, T.i_TooMany_NoWord, ⟨_, hs, _, _, _, rfl, fun u hu => hu, T.i_TooMany_NoChange, q⟩⟩⟩⟩) (fun σ H Q hs q => ⟨_, hs, _, _, _, rfl, fun u hu => hu, T.i_TooMany_TooMany, ⟨_, hs, _, _, _, rfl, fun u hu => hu, T.i_TooMany_NoStep, ⟨_, hs, _, _, _, rfl, fun u hu => hu, T.i_TooMany_Unlike, q⟩⟩⟩) (fun σ H Q q => q) (by decide) (by decide) rfl (by decide) rfl q
theorem kind_kind_Unlike (T : Tx K mg) (p : Addr × Obj) (hz : Zc (.ref T.e_Unlike.C) none p.2) (hf : ∃ vs, p.2.data = .fields vs) : FnP P w K mg base (L2.CX P w) 1 T.kind.f T.kind.fd ["_law_e"] p (spK p.1 "unlike") := by
  obtain ⟨oc, od, kV, doc, pm, an, cdv, ct, osl, e, lk, hcd⟩ := T.kind.fn.ex
  rw [e] at lk ⊢
  refine fn_ofP lk hcd sc_kind (fun vs H Q E h => by obtain ⟨rfl, _⟩ := h; rfl) (fun A outer s H vs Q E hr h => ?_)
  obtain ⟨rfl, q⟩ := h
  have hu65 : (A.deeper (envOfC "_law_kind" (defScope s_kind) s.heap.objs.size T.kind.f cdv)).units + 65 < cLine := by have := hr.un; omega
  refine ⟨_, (pss_cons (ps_set (i := 1) sc_kind.nd rfl (.inl rfl) (pe_lst (pa_cons (pe_callB (call_isP (T.x_Unlike) List.mem_cons_self hz hf) (by rfl) T.z_isinstance boot_isinstance (pa_cons (pe_var (i := 0) rfl (.inl rfl)) (pa_cons (pe_glob (v := .ref T.c_NoPoint.C) (by rfl) T.c_NoPoint.m rfl) pa_nil))) (pa_cons (pe_callB (call_isP (T.x_Unlike) List.mem_cons_self hz hf) (by rfl) T.z_isinstance boot_isinstance (pa_cons (pe_var (i := 0) rfl (.inl rfl)) (pa_cons (pe_glob (v := .ref T.c_NoNumber.C) (by rfl) T.c_NoNumber.m rfl) pa_nil))) (pa_cons (pe_callB (call_isP (T.x_Unlike) List.mem_cons_self hz hf) (by rfl) T.z_isinstance boot_isinstance (pa_cons (pe_var (i := 0) rfl (.inl rfl)) (pa_cons (pe_glob (v := .ref T.c_NoWord.C) (by rfl) T.c_NoWord.m rfl) pa_nil))) (pa_cons (pe_callB (call_isP (T.x_Unlike) List.mem_cons_self hz hf) (by rfl) T.z_isinstance boot_isinstance (pa_cons (pe_var (i := 0) rfl (.inl rfl)) (pa_cons (pe_glob (v := .ref T.c_NoChange.C) (by rfl) T.c_NoChange.m rfl) pa_nil))) pa_nil)))))) (pss_cons (ps_set (i := 1) sc_kind.nd rfl (.inl rfl) (pe_op op_cat (pe_var (i := 1) rfl (.inl rfl)) (pe_lst (pa_cons (pe_callB (call_isP (T.x_Unlike) List.mem_cons_self hz hf) (by rfl) T.z_isinstance boot_isinstance (pa_cons (pe_var (i := 0) rfl (.inl rfl)) (pa_cons (pe_glob (v := .ref T.c_TooMany.C) (by rfl) T.c_TooMany.m rfl) pa_nil))) (pa_cons (pe_callB (call_isP (T.x_Unlike) List.mem_cons_self hz hf) (by rfl) T.z_isinstance boot_isinstance (pa_cons (pe_var (i := 0) rfl (.inl rfl)) (pa_cons (pe_glob (v := .ref T.c_NoStep.C) (by rfl) T.c_NoStep.m rfl) pa_nil))) (pa_cons (pe_callB (call_isP (T.x_Unlike) List.mem_cons_self hz hf) (by rfl) T.z_isinstance boot_isinstance (pa_cons (pe_var (i := 0) rfl (.inl rfl)) (pa_cons (pe_glob (v := .ref T.c_Unlike.C) (by rfl) T.c_Unlike.m rfl) pa_nil))) (pa_cons pe_bl pa_nil))))))) (pss_one (ps_ret (pe_ix ix_list (pe_lst (pa_cons pe_str (pa_cons pe_str (pa_cons pe_str (pa_cons pe_str (pa_cons pe_str (pa_cons pe_str (pa_cons pe_str (pa_cons pe_str pa_nil))))))))) (pe_bm F.plainAttrs_list F.slot_list_index F.type_list_index (mt_indexD hu65) (pe_var (i := 1) rfl (.inl rfl)) (pa_cons pe_bl pa_nil)) (fun _ _ => rfl)))))), ?_⟩
  exact kind1_eval (bs1 := [false, false, false, false]) (bs2 := [false, false, true, true]) (ws := ["point", "number", "word", "change", "many", "step", "unlike", "other"]) (j := 6) (fun σ H Q hs q => ⟨_, hs, _, _, _, rfl, fun u hu => hu, T.i_Unlike_NoPoint, ⟨_, hs, _, _, _, rfl, fun u hu => hu, T.i_Unlike_NoNumber, ⟨_, hs, _, _, _, rfl, fun u hu => hu, T.i_Unlike_NoWord, ⟨_, hs, _, _, _, rfl, fun u hu => hu, T.i_Unlike_NoChange, q⟩⟩⟩⟩) (fun σ H Q hs q => ⟨_, hs, _, _, _, rfl, fun u hu => hu, T.i_Unlike_TooMany, ⟨_, hs, _, _, _, rfl, fun u hu => hu, T.i_Unlike_NoStep, ⟨_, hs, _, _, _, rfl, fun u hu => hu, T.i_Unlike_Unlike, q⟩⟩⟩) (fun σ H Q q => q) (by decide) (by decide) rfl (by decide) rfl q
theorem ok_due (T : Tx K mg) : FnS P w K mg base 1 T.due.f T.due.fd ["_law_changes"] d_due := by
  unfold d_due
  exact fn_mk T.due.fn sc_due fun cdv A outer s H E J hr => by
    have tk : Takes (cxOf (L2.CX P w) P w K mg base ["_law_changes", "_law_longs", "_law_order", "_law_root", "_law_some", "_law_rows", "_law_piece"] "_law_due" (defScope s_due) T.due.f cdv A outer s H E) (fun cls d _ H' => E cls d H') := takes_of rfl rfl rfl rfl
    have hps : PassesOwn (model P w) (cxOf (L2.CX P w) P w K mg base ["_law_changes", "_law_longs", "_law_order", "_law_root", "_law_some", "_law_rows", "_law_piece"] "_law_due" (defScope s_due) T.due.f cdv A outer s H E).A (cxOf (L2.CX P w) P w K mg base ["_law_changes", "_law_longs", "_law_order", "_law_root", "_law_some", "_law_rows", "_law_piece"] "_law_due" (defScope s_due) T.due.f cdv A outer s H E).env (cxOf (L2.CX P w) P w K mg base ["_law_changes", "_law_longs", "_law_order", "_law_root", "_law_some", "_law_rows", "_law_piece"] "_law_due" (defScope s_due) T.due.f cdv A outer s H E).xe := passes_of rfl
    skip
    exact (fss_cons (fs_set (i := 1) sc_due.nd (fe_tup fds_nil))
  (fss_cons (fs_set (i := 2) sc_due.nd (fe_tup fds_nil))
  (fss_cons (fs_for hps rfl (fi_seq (fe_var 0)) (fg_tup rfl (fgs_cons (fg_name (i := 3) sc_due.nd) (fgs_cons (fg_name (i := 4) sc_due.nd) (fgs_cons (fg_name (i := 5) sc_due.nd) fgs_nil)))) (fss_cons (fs_set (i := 2) sc_due.nd (fe_op op_addU op2_add (fe_var 2) (fe_callTy call_tupleF opn_tuple (by rfl) T.z_tuple boot_tuple (fa_cons (fe_lc rfl sc_due.nd (fi_seq (fe_var 5)) (blkOk_by (own := [("_law_piece", 6)]) (by kernel_rfl)) (fun _ _ _ _ _ => (fg_name (i := 6) sc_due.nd)) (fun _ _ _ _ _ => fts_nil) (fun _ _ _ _ _ => (fe_op op_addU op2_add (fe_var 6) (fe_callB call_len opn_len (by rfl) T.z_len boot_len (fa_cons (fe_var 1) fa_nil))))) fa_nil))))
  (fss_one (fs_set (i := 1) sc_due.nd (fe_op op_addU op2_add (fe_var 1) (fe_var 4))))))
  (fss_one (fs_ret (fe_tup (fds_cons (fe_ix (fe_ix (fe_var 0) fe_int) fe_int) (fds_cons (fe_var 1) (fds_cons (fe_var 2) fds_nil)))))))))
theorem ok_p_is_root (T : Tx K mg) : FnS P w K mg base 2 T.p_is_root.f T.p_is_root.fd ["thing"] d_p_is_root := by
  unfold d_p_is_root
  exact fn_mk T.p_is_root.fn sc_p_is_root fun cdv A outer s H E J hr => by
    have tk : Takes (cxOf (L2.CX P w) P w K mg base ["thing", "side"] "is_root" (defScope s_p_is_root) T.p_is_root.f cdv A outer s H E) (fun cls d _ H' => E cls d H') := takes_of rfl rfl rfl rfl
    have hps : PassesOwn (model P w) (cxOf (L2.CX P w) P w K mg base ["thing", "side"] "is_root" (defScope s_p_is_root) T.p_is_root.f cdv A outer s H E).A (cxOf (L2.CX P w) P w K mg base ["thing", "side"] "is_root" (defScope s_p_is_root) T.p_is_root.f cdv A outer s H E).env (cxOf (L2.CX P w) P w K mg base ["thing", "side"] "is_root" (defScope s_p_is_root) T.p_is_root.f cdv A outer s H E).xe := passes_of rfl
    have hu := hr.units
    exact (fss_cons (fs_if (FW.ft (fw_or (ft_not (ft_val (fe_call (ok_p_is_whole T) (hr.mono (by decide)) (by rfl) T.p_is_whole.m T.p_is_whole.fn.kp T.p_is_whole.b tk (fas_cons (fe_var 0) fas_nil)))) (fw_or (ft_cmp op_lt op2_lt (nomark _) (fe_var 0) fe_int) (fw_or (ft_cmp (op_eqD hu) op2_eq (nomark _) (fe_var 0) fe_int) (fw_or1 (ft_cmp op_gt op2_gt (nomark _) (fe_var 0) (fe_gc T.g_MOST_ROOT (by rfl)))))))) (fss_one (fs_ret fe_bl)) fss_nil)
  (fss_one (fs_ret (fe_or (fe_cmp (op_eqD hu) op2_eq (nomark _) (fe_var 0) fe_int) (fe_one (fe_not (fe_callB (cr_any rfl) opn_any (by rfl) T.z_any boot_any (fa_cons (fe_lc rfl sc_p_is_root.nd (fi_range2 (by rfl) T.z_range (fds_cons fe_int (fds_cons fe_int fds_nil))) (blkOk_by (own := [("side", 1)]) (by kernel_rfl)) (fun _ _ _ _ _ => (fg_name (i := 1) sc_p_is_root.nd)) (fun _ _ _ _ _ => fts_nil) (fun _ _ _ _ _ => (fe_cmp (op_eqD hu) op2_eq (nomark _) (fe_op op_modN op2_mod (fe_var 0) (fe_op op_mulU op2_mul (fe_var 1) (fe_var 1))) fe_int))) fa_nil))))))))
theorem ok_p_lowest (T : Tx K mg) : FnS P w K mg base 2 T.p_lowest.f T.p_lowest.fd ["a", "b", "c"] d_p_lowest := by
  unfold d_p_lowest
  exact fn_mk T.p_lowest.fn sc_p_lowest fun cdv A outer s H E J hr => by
    have tk : Takes (cxOf (L2.CX P w) P w K mg base ["a", "b", "c", "by"] "lowest" (defScope s_p_lowest) T.p_lowest.f cdv A outer s H E) (fun cls d _ H' => E cls d H') := takes_of rfl rfl rfl rfl
    have hps : PassesOwn (model P w) (cxOf (L2.CX P w) P w K mg base ["a", "b", "c", "by"] "lowest" (defScope s_p_lowest) T.p_lowest.f cdv A outer s H E).A (cxOf (L2.CX P w) P w K mg base ["a", "b", "c", "by"] "lowest" (defScope s_p_lowest) T.p_lowest.f cdv A outer s H E).env (cxOf (L2.CX P w) P w K mg base ["a", "b", "c", "by"] "lowest" (defScope s_p_lowest) T.p_lowest.f cdv A outer s H E).xe := passes_of rfl
    skip
    exact (fss_cons (fs_set (i := 3) sc_p_lowest.nd (fe_call (ok_p_divisor T) (hr.mono (by decide)) (by rfl) T.p_divisor.m T.p_divisor.fn.kp T.p_divisor.b tk (fas_cons (fe_call (ok_p_divisor T) (hr.mono (by decide)) (by rfl) T.p_divisor.m T.p_divisor.fn.kp T.p_divisor.b tk (fas_cons (fe_var 0) (fas_cons (fe_var 1) fas_nil))) (fas_cons (fe_var 2) fas_nil))))
  (fss_cons (fs_if (ft_cmp op_lt op2_lt (nomark _) (fe_var 2) fe_int) (fss_one (fs_set (i := 3) sc_p_lowest.nd (fe_op op_sub op2_sub fe_int (fe_var 3)))) fss_nil)
  (fss_one (fs_ret (fe_tup (fds_cons (fe_op op_fdivAll op2_fdiv (fe_var 0) (fe_var 3)) (fds_cons (fe_op op_fdivAll op2_fdiv (fe_var 1) (fe_var 3)) (fds_cons (fe_op op_fdivAll op2_fdiv (fe_var 2) (fe_var 3)) fds_nil))))))))
theorem ok_box (T : Tx K mg) : FnS P w K mg base 2 T.box.f T.box.fd ["_law_script", "_law_k"] d_box := by
  unfold d_box
  exact fn_mk T.box.fn sc_box fun cdv A outer s H E J hr => by
    have tk : Takes (cxOf (L2.CX P w) P w K mg base ["_law_script", "_law_k", "_law_here", "_law_number", "_law_j"] "_law_box" (defScope s_box) T.box.f cdv A outer s H E) (fun cls d _ H' => E cls d H') := takes_of rfl rfl rfl rfl
    have hps : PassesOwn (model P w) (cxOf (L2.CX P w) P w K mg base ["_law_script", "_law_k", "_law_here", "_law_number", "_law_j"] "_law_box" (defScope s_box) T.box.f cdv A outer s H E).A (cxOf (L2.CX P w) P w K mg base ["_law_script", "_law_k", "_law_here", "_law_number", "_law_j"] "_law_box" (defScope s_box) T.box.f cdv A outer s H E).env (cxOf (L2.CX P w) P w K mg base ["_law_script", "_law_k", "_law_here", "_law_number", "_law_j"] "_law_box" (defScope s_box) T.box.f cdv A outer s H E).xe := passes_of rfl
    have hu := hr.units
    exact (fss_cons (fs_set (i := 2) sc_box.nd (fe_call (ok_cell T) (hr.mono (by decide)) (by rfl) T.cell.m T.cell.fn.kp T.cell.b tk (fas_cons (fe_var 0) (fas_cons (fe_var 1) fas_nil))))
  (fss_cons (fs_if (ft_cmp (op_eqD hu) op2_eq (nomark _) (fe_op op_modN op2_mod (fe_var 2) fe_int) fe_int) (fss_one (fs_ret (fe_lst (fds_cons (fe_op op_fdivAll op2_fdiv (fe_var 2) fe_int) fds_nil)))) fss_nil)
  (fss_cons (fs_set (i := 3) sc_box.nd fe_int)
  (fss_cons (fs_for hps rfl (fi_range1 (by rfl) T.z_range (fds_cons fe_int fds_nil)) (fg_name (i := 4) sc_box.nd) (fss_one (fs_set (i := 3) sc_box.nd (fe_op op_addU op2_add (fe_op op_mulU op2_mul (fe_var 3) fe_int) (fe_call (ok_mix T) (hr.mono (by decide)) (by rfl) T.mix.m T.mix.fn.kp T.mix.b tk (fas_cons (fe_var 2) (fas_cons (fe_var 4) fas_nil)))))))
  (fss_one (fs_ret (fe_lst (fds_cons (fe_var 3) fds_nil))))))))
theorem ok_plus (T : Tx K mg) : FnS P w K mg base 2 T.plus.f T.plus.fd ["_law_one", "_law_other"] d_plus := by
  unfold d_plus
  exact fn_mk T.plus.fn sc_plus fun cdv A outer s H E J hr => by
    have tk : Takes (cxOf (L2.CX P w) P w K mg base ["_law_one", "_law_other", "_law_a", "_law_b", "_law_c", "_law_d", "_law_e", "_law_f"] "_law_plus" (defScope s_plus) T.plus.f cdv A outer s H E) (fun cls d _ H' => E cls d H') := takes_of rfl rfl rfl rfl
    have hps : PassesOwn (model P w) (cxOf (L2.CX P w) P w K mg base ["_law_one", "_law_other", "_law_a", "_law_b", "_law_c", "_law_d", "_law_e", "_law_f"] "_law_plus" (defScope s_plus) T.plus.f cdv A outer s H E).A (cxOf (L2.CX P w) P w K mg base ["_law_one", "_law_other", "_law_a", "_law_b", "_law_c", "_law_d", "_law_e", "_law_f"] "_law_plus" (defScope s_plus) T.plus.f cdv A outer s H E).env (cxOf (L2.CX P w) P w K mg base ["_law_one", "_law_other", "_law_a", "_law_b", "_law_c", "_law_d", "_law_e", "_law_f"] "_law_plus" (defScope s_plus) T.plus.f cdv A outer s H E).xe := passes_of rfl
    skip
    exact (fss_cons (fs_unp (fe_var 0) (fg_tup rfl (fgs_cons (fg_name (i := 2) sc_plus.nd) (fgs_cons (fg_name (i := 3) sc_plus.nd) (fgs_cons (fg_name (i := 4) sc_plus.nd) fgs_nil)))))
  (fss_cons (fs_unp (fe_var 1) (fg_tup rfl (fgs_cons (fg_name (i := 5) sc_plus.nd) (fgs_cons (fg_name (i := 6) sc_plus.nd) (fgs_cons (fg_name (i := 7) sc_plus.nd) fgs_nil)))))
  (fss_one (fs_ret (fe_call (ok_fit T) (hr.mono (by decide)) (by rfl) T.fit.m T.fit.fn.kp T.fit.b tk (fas_cons (fe_op op_addU op2_add (fe_op op_mulU op2_mul (fe_var 2) (fe_var 7)) (fe_op op_mulU op2_mul (fe_var 5) (fe_var 4))) (fas_cons (fe_op op_addU op2_add (fe_op op_mulU op2_mul (fe_var 3) (fe_var 7)) (fe_op op_mulU op2_mul (fe_var 6) (fe_var 4))) (fas_cons (fe_op op_mulU op2_mul (fe_var 4) (fe_var 7)) fas_nil))))))))
theorem ok_odd (T : Tx K mg) : FnS P w K mg base 2 T.odd.f T.odd.fd ["_law_box_here"] d_odd := by
  unfold d_odd
  exact fn_mk T.odd.fn sc_odd fun cdv A outer s H E J hr => by
    have tk : Takes (cxOf (L2.CX P w) P w K mg base ["_law_box_here", "_law_some"] "_law_odd" (defScope s_odd) T.odd.f cdv A outer s H E) (fun cls d _ H' => E cls d H') := takes_of rfl rfl rfl rfl
    have hps : PassesOwn (model P w) (cxOf (L2.CX P w) P w K mg base ["_law_box_here", "_law_some"] "_law_odd" (defScope s_odd) T.odd.f cdv A outer s H E).A (cxOf (L2.CX P w) P w K mg base ["_law_box_here", "_law_some"] "_law_odd" (defScope s_odd) T.odd.f cdv A outer s H E).env (cxOf (L2.CX P w) P w K mg base ["_law_box_here", "_law_some"] "_law_odd" (defScope s_odd) T.odd.f cdv A outer s H E).xe := passes_of rfl
    skip
    exact (fss_cons (fs_set (i := 1) sc_odd.nd (fe_lst (fds_cons fe_non (fds_cons fe_bl (fds_cons fe_bl (fds_cons (fe_un un_neg op1_neg fe_int) (fds_cons fe_int (fds_cons fe_int (fds_cons fe_int (fds_cons fe_str (fds_cons fe_str (fds_cons (fe_tup fds_nil) (fds_cons (fe_tup (fds_cons fe_int fds_nil)) (fds_cons (fe_tup (fds_cons fe_int (fds_cons fe_int (fds_cons fe_int fds_nil)))) (fds_cons (fe_tup (fds_cons fe_int (fds_cons fe_int (fds_cons fe_int fds_nil)))) (fds_cons (fe_tup (fds_cons fe_int (fds_cons fe_int (fds_cons fe_int fds_nil)))) (fds_cons (fe_tup (fds_cons fe_bl (fds_cons fe_int (fds_cons fe_int fds_nil)))) (fds_cons (fe_lst (fds_cons fe_int (fds_cons fe_int (fds_cons fe_int fds_nil)))) fds_nil))))))))))))))))))
  (fss_cons (fs_set (i := 1) sc_odd.nd (fe_op op_addU op2_add (fe_var 1) (fe_lst (fds_cons (fe_tup (fds_cons fe_int (fds_cons fe_int (fds_cons fe_int fds_nil)))) (fds_cons (fe_tup (fds_cons (fe_un un_neg op1_neg fe_int) (fds_cons fe_int (fds_cons fe_int fds_nil)))) (fds_cons (fe_tup (fds_cons (fe_op op_pow op2_pow fe_int fe_int) (fds_cons fe_int (fds_cons fe_int fds_nil)))) (fds_cons (fe_tup (fds_cons fe_int (fds_cons fe_int (fds_cons (fe_un un_neg op1_neg fe_int) fds_nil)))) (fds_cons fe_dnew (fds_cons (fe_tup (fds_cons fe_int (fds_cons fe_int fds_nil))) (fds_cons (fe_tup (fds_cons fe_int (fds_cons fe_int (fds_cons fe_int fds_nil)))) (fds_cons (fe_tup (fds_cons (fe_tup (fds_cons fe_int (fds_cons fe_int (fds_cons fe_int fds_nil)))) fds_nil)) fds_nil)))))))))))
  (fss_cons (fs_set (i := 1) sc_odd.nd (fe_op op_addU op2_add (fe_var 1) (fe_lst (fds_cons (fe_op op_pow op2_pow fe_int fe_int) (fds_cons (fe_tup (fds_cons fe_int (fds_cons fe_int (fds_cons fe_int fds_nil)))) fds_nil)))))
  (fss_one (fs_ret (fe_ix (fe_var 1) (fe_call (ok_take T) (hr.mono (by decide)) (by rfl) T.take.m T.take.fn.kp T.take.b tk (fas_box (i := 0) (fas_cons (fe_callB call_len opn_len (by rfl) T.z_len boot_len (fa_cons (fe_var 1) fa_nil)) fas_nil)))))))))
theorem ok_p_is_number (T : Tx K mg) : FnS P w K mg base 3 T.p_is_number.f T.p_is_number.fd ["root", "thing"] d_p_is_number := by
  unfold d_p_is_number
  exact fn_mk T.p_is_number.fn sc_p_is_number fun cdv A outer s H E J hr => by
    have tk : Takes (cxOf (L2.CX P w) P w K mg base ["root", "thing", "one"] "is_number" (defScope s_p_is_number) T.p_is_number.f cdv A outer s H E) (fun cls d _ H' => E cls d H') := takes_of rfl rfl rfl rfl
    have hps : PassesOwn (model P w) (cxOf (L2.CX P w) P w K mg base ["root", "thing", "one"] "is_number" (defScope s_p_is_number) T.p_is_number.f cdv A outer s H E).A (cxOf (L2.CX P w) P w K mg base ["root", "thing", "one"] "is_number" (defScope s_p_is_number) T.p_is_number.f cdv A outer s H E).env (cxOf (L2.CX P w) P w K mg base ["root", "thing", "one"] "is_number" (defScope s_p_is_number) T.p_is_number.f cdv A outer s H E).xe := passes_of rfl
    have hu := hr.units
    exact (fss_cons (fs_if (FW.ft (fw_or (ft_not (ft_val (fe_isi (by rfl) T.z_isinstance (by rfl) T.z_tuple boot_tuple (fe_var 1)))) (fw_or (ft_cmp (op_neD hu) op2_ne (nomark _) (fe_callB call_len opn_len (by rfl) T.z_len boot_len (fa_cons (fe_var 1) fa_nil)) fe_int) (fw_or1 (ft_not (ft_val (fe_callB (cr_all rfl) opn_all (by rfl) T.z_all boot_all (fa_cons (fe_lc rfl sc_p_is_number.nd (fi_seq (fe_var 1)) (blkOk_by (own := [("one", 2)]) (by kernel_rfl)) (fun _ _ _ _ _ => (fg_name (i := 2) sc_p_is_number.nd)) (fun _ _ _ _ _ => fts_nil) (fun _ _ _ _ _ => (fe_call (ok_p_is_whole T) (hr.mono (by decide)) (by rfl) T.p_is_whole.m T.p_is_whole.fn.kp T.p_is_whole.b takes0 (fas_cons (fe_var 2) fas_nil)))) fa_nil)))))))) (fss_one (fs_ret fe_bl)) fss_nil)
  (fss_cons (fs_if (FW.ft (fw_or (ft_cmp op_lt op2_lt (nomark _) (fe_ix (fe_var 1) fe_int) fe_int) (fw_or1 (FW.ft (fw_and (ft_cmp (op_eqD hu) op2_eq (nomark _) (fe_var 0) fe_int) (fw_and1 (ft_cmp (op_neD hu) op2_ne (nomark _) (fe_ix (fe_var 1) fe_int) fe_int))))))) (fss_one (fs_ret fe_bl)) fss_nil)
  (fss_one (fs_ret (fe_cmp (op_eqD hu) op2_eq (nomark _) (fe_call (ok_p_lowest T) (hr.mono (by decide)) (by rfl) T.p_lowest.m T.p_lowest.fn.kp T.p_lowest.b tk (fas_cons (fe_ix (fe_var 1) fe_int) (fas_cons (fe_ix (fe_var 1) fe_int) (fas_cons (fe_ix (fe_var 1) fe_int) fas_nil)))) (fe_var 1))))))
theorem ok_p_plus (T : Tx K mg) : FnS P w K mg base 3 T.p_plus.f T.p_plus.fd ["root", "one", "other"] d_p_plus := by
  unfold d_p_plus
  exact fn_mk T.p_plus.fn sc_p_plus fun cdv A outer s H E J hr => by
    have tk : Takes (cxOf (L2.CX P w) P w K mg base ["root", "one", "other", "a", "b", "c", "d", "e", "f"] "plus" (defScope s_p_plus) T.p_plus.f cdv A outer s H E) (fun cls d _ H' => E cls d H') := takes_of rfl rfl rfl rfl
    have hps : PassesOwn (model P w) (cxOf (L2.CX P w) P w K mg base ["root", "one", "other", "a", "b", "c", "d", "e", "f"] "plus" (defScope s_p_plus) T.p_plus.f cdv A outer s H E).A (cxOf (L2.CX P w) P w K mg base ["root", "one", "other", "a", "b", "c", "d", "e", "f"] "plus" (defScope s_p_plus) T.p_plus.f cdv A outer s H E).env (cxOf (L2.CX P w) P w K mg base ["root", "one", "other", "a", "b", "c", "d", "e", "f"] "plus" (defScope s_p_plus) T.p_plus.f cdv A outer s H E).xe := passes_of rfl
    skip
    exact (fss_cons (fs_unp (fe_var 1) (fg_tup rfl (fgs_cons (fg_name (i := 3) sc_p_plus.nd) (fgs_cons (fg_name (i := 4) sc_p_plus.nd) (fgs_cons (fg_name (i := 5) sc_p_plus.nd) fgs_nil)))))
  (fss_cons (fs_unp (fe_var 2) (fg_tup rfl (fgs_cons (fg_name (i := 6) sc_p_plus.nd) (fgs_cons (fg_name (i := 7) sc_p_plus.nd) (fgs_cons (fg_name (i := 8) sc_p_plus.nd) fgs_nil)))))
  (fss_one (fs_ret (fe_call (ok_p_lowest T) (hr.mono (by decide)) (by rfl) T.p_lowest.m T.p_lowest.fn.kp T.p_lowest.b tk (fas_cons (fe_op op_addU op2_add (fe_op op_mulU op2_mul (fe_var 3) (fe_var 8)) (fe_op op_mulU op2_mul (fe_var 6) (fe_var 5))) (fas_cons (fe_op op_addU op2_add (fe_op op_mulU op2_mul (fe_var 4) (fe_var 8)) (fe_op op_mulU op2_mul (fe_var 7) (fe_var 5))) (fas_cons (fe_op op_mulU op2_mul (fe_var 5) (fe_var 8)) fas_nil))))))))
theorem ok_minus (T : Tx K mg) : FnS P w K mg base 3 T.minus.f T.minus.fd ["_law_one", "_law_other"] d_minus := by
  unfold d_minus
  exact fn_mk T.minus.fn sc_minus fun cdv A outer s H E J hr => by
    have tk : Takes (cxOf (L2.CX P w) P w K mg base ["_law_one", "_law_other"] "_law_minus" (defScope s_minus) T.minus.f cdv A outer s H E) (fun cls d _ H' => E cls d H') := takes_of rfl rfl rfl rfl
    have hps : PassesOwn (model P w) (cxOf (L2.CX P w) P w K mg base ["_law_one", "_law_other"] "_law_minus" (defScope s_minus) T.minus.f cdv A outer s H E).A (cxOf (L2.CX P w) P w K mg base ["_law_one", "_law_other"] "_law_minus" (defScope s_minus) T.minus.f cdv A outer s H E).env (cxOf (L2.CX P w) P w K mg base ["_law_one", "_law_other"] "_law_minus" (defScope s_minus) T.minus.f cdv A outer s H E).xe := passes_of rfl
    skip
    exact (fss_one (fs_ret (fe_call (ok_plus T) (hr.mono (by decide)) (by rfl) T.plus.m T.plus.fn.kp T.plus.b tk (fas_cons (fe_var 0) (fas_cons (fe_tup (fds_cons (fe_op op_sub op2_sub fe_int (fe_ix (fe_var 1) fe_int)) (fds_cons (fe_op op_sub op2_sub fe_int (fe_ix (fe_var 1) fe_int)) (fds_cons (fe_ix (fe_var 1) fe_int) fds_nil)))) fas_nil)))))
theorem ok_p_minus (T : Tx K mg) : FnS P w K mg base 4 T.p_minus.f T.p_minus.fd ["root", "one", "other"] d_p_minus := by
  unfold d_p_minus
  exact fn_mk T.p_minus.fn sc_p_minus fun cdv A outer s H E J hr => by
    have tk : Takes (cxOf (L2.CX P w) P w K mg base ["root", "one", "other", "a", "b", "c"] "minus" (defScope s_p_minus) T.p_minus.f cdv A outer s H E) (fun cls d _ H' => E cls d H') := takes_of rfl rfl rfl rfl
    have hps : PassesOwn (model P w) (cxOf (L2.CX P w) P w K mg base ["root", "one", "other", "a", "b", "c"] "minus" (defScope s_p_minus) T.p_minus.f cdv A outer s H E).A (cxOf (L2.CX P w) P w K mg base ["root", "one", "other", "a", "b", "c"] "minus" (defScope s_p_minus) T.p_minus.f cdv A outer s H E).env (cxOf (L2.CX P w) P w K mg base ["root", "one", "other", "a", "b", "c"] "minus" (defScope s_p_minus) T.p_minus.f cdv A outer s H E).xe := passes_of rfl
    skip
    exact (fss_cons (fs_unp (fe_var 2) (fg_tup rfl (fgs_cons (fg_name (i := 3) sc_p_minus.nd) (fgs_cons (fg_name (i := 4) sc_p_minus.nd) (fgs_cons (fg_name (i := 5) sc_p_minus.nd) fgs_nil)))))
  (fss_one (fs_ret (fe_call (ok_p_plus T) (hr.mono (by decide)) (by rfl) T.p_plus.m T.p_plus.fn.kp T.p_plus.b tk (fas_cons (fe_var 0) (fas_cons (fe_var 1) (fas_cons (fe_tup (fds_cons (fe_op op_sub op2_sub fe_int (fe_var 3)) (fds_cons (fe_op op_sub op2_sub fe_int (fe_var 4)) (fds_cons (fe_var 5) fds_nil)))) fas_nil)))))))
theorem ok_less (T : Tx K mg) : FnS P w K mg base 4 T.less.f T.less.fd ["_law_root", "_law_one", "_law_other"] d_less := by
  unfold d_less
  exact fn_mk T.less.fn sc_less fun cdv A outer s H E J hr => by
    have tk : Takes (cxOf (L2.CX P w) P w K mg base ["_law_root", "_law_one", "_law_other", "_law_a", "_law_b", "_law_c"] "_law_less" (defScope s_less) T.less.f cdv A outer s H E) (fun cls d _ H' => E cls d H') := takes_of rfl rfl rfl rfl
    have hps : PassesOwn (model P w) (cxOf (L2.CX P w) P w K mg base ["_law_root", "_law_one", "_law_other", "_law_a", "_law_b", "_law_c"] "_law_less" (defScope s_less) T.less.f cdv A outer s H E).A (cxOf (L2.CX P w) P w K mg base ["_law_root", "_law_one", "_law_other", "_law_a", "_law_b", "_law_c"] "_law_less" (defScope s_less) T.less.f cdv A outer s H E).env (cxOf (L2.CX P w) P w K mg base ["_law_root", "_law_one", "_law_other", "_law_a", "_law_b", "_law_c"] "_law_less" (defScope s_less) T.less.f cdv A outer s H E).xe := passes_of rfl
    skip
    exact (fss_cons (fs_unp (fe_call (ok_minus T) (hr.mono (by decide)) (by rfl) T.minus.m T.minus.fn.kp T.minus.b tk (fas_cons (fe_var 1) (fas_cons (fe_var 2) fas_nil))) (fg_tup rfl (fgs_cons (fg_name (i := 3) sc_less.nd) (fgs_cons (fg_name (i := 4) sc_less.nd) (fgs_cons (fg_name (i := 5) sc_less.nd) fgs_nil)))))
  (fss_cons (fs_if (FW.ft (fw_and (ft_cmp op_ge op2_ge (nomark _) (fe_var 3) fe_int) (fw_and1 (ft_cmp op_ge op2_ge (nomark _) (fe_var 4) fe_int)))) (fss_one (fs_ret fe_bl)) fss_nil)
  (fss_cons (fs_if (FW.ft (fw_and (ft_cmp op_le op2_le (nomark _) (fe_var 3) fe_int) (fw_and1 (ft_cmp op_le op2_le (nomark _) (fe_var 4) fe_int)))) (fss_one (fs_ret fe_bl)) fss_nil)
  (fss_cons (fs_if (ft_cmp op_lt op2_lt (nomark _) (fe_var 3) fe_int) (fss_one (fs_ret (fe_cmp op_gt op2_gt (nomark _) (fe_op op_mulU op2_mul (fe_var 3) (fe_var 3)) (fe_op op_mulU op2_mul (fe_op op_mulU op2_mul (fe_var 4) (fe_var 4)) (fe_var 0))))) fss_nil)
  (fss_one (fs_ret (fe_cmp op_lt op2_lt (nomark _) (fe_op op_mulU op2_mul (fe_var 3) (fe_var 3)) (fe_op op_mulU op2_mul (fe_op op_mulU op2_mul (fe_var 4) (fe_var 4)) (fe_var 0)))))))))
theorem ok_p_less (T : Tx K mg) : FnS P w K mg base 5 T.p_less.f T.p_less.fd ["root", "one", "other"] d_p_less := by
  unfold d_p_less
  exact fn_mk T.p_less.fn sc_p_less fun cdv A outer s H E J hr => by
    have tk : Takes (cxOf (L2.CX P w) P w K mg base ["root", "one", "other"] "less" (defScope s_p_less) T.p_less.f cdv A outer s H E) (fun cls d _ H' => E cls d H') := takes_of rfl rfl rfl rfl
    have hps : PassesOwn (model P w) (cxOf (L2.CX P w) P w K mg base ["root", "one", "other"] "less" (defScope s_p_less) T.p_less.f cdv A outer s H E).A (cxOf (L2.CX P w) P w K mg base ["root", "one", "other"] "less" (defScope s_p_less) T.p_less.f cdv A outer s H E).env (cxOf (L2.CX P w) P w K mg base ["root", "one", "other"] "less" (defScope s_p_less) T.p_less.f cdv A outer s H E).xe := passes_of rfl
    skip
    exact (fss_one (fs_ret (fe_cmp op_lt op2_lt (nomark _) (fe_call (ok_p_sign_of T) (hr.mono (by decide)) (by rfl) T.p_sign_of.m T.p_sign_of.fn.kp T.p_sign_of.b tk (fas_cons (fe_var 0) (fas_cons (fe_call (ok_p_minus T) (hr.mono (by decide)) (by rfl) T.p_minus.m T.p_minus.fn.kp T.p_minus.b tk (fas_cons (fe_var 0) (fas_cons (fe_var 1) (fas_cons (fe_var 2) fas_nil)))) fas_nil))) fe_int)))
theorem ok_long (T : Tx K mg) : FnS P w K mg base 5 T.long.f T.long.fd ["_law_box_here", "_law_root"] d_long := by
  unfold d_long
  exact fn_mk T.long.fn sc_long fun cdv A outer s H E J hr => by
    have tk : Takes (cxOf (L2.CX P w) P w K mg base ["_law_box_here", "_law_root", "_law_found"] "_law_long" (defScope s_long) T.long.f cdv A outer s H E) (fun cls d _ H' => E cls d H') := takes_of rfl rfl rfl rfl
    have hps : PassesOwn (model P w) (cxOf (L2.CX P w) P w K mg base ["_law_box_here", "_law_root", "_law_found"] "_law_long" (defScope s_long) T.long.f cdv A outer s H E).A (cxOf (L2.CX P w) P w K mg base ["_law_box_here", "_law_root", "_law_found"] "_law_long" (defScope s_long) T.long.f cdv A outer s H E).env (cxOf (L2.CX P w) P w K mg base ["_law_box_here", "_law_root", "_law_found"] "_law_long" (defScope s_long) T.long.f cdv A outer s H E).xe := passes_of rfl
    have hu := hr.units
    exact (fss_cons (fs_if (ft_cmp (op_eqD hu) op2_eq (nomark _) (fe_var 1) fe_int) (fss_one (fs_ret (fe_call (ok_fit T) (hr.mono (by decide)) (by rfl) T.fit.m T.fit.fn.kp T.fit.b tk (fas_cons (fe_op op_addU op2_add fe_int (fe_call (ok_take T) (hr.mono (by decide)) (by rfl) T.take.m T.take.fn.kp T.take.b tk (fas_box (i := 0) (fas_cons fe_int fas_nil)))) (fas_cons fe_int (fas_cons (fe_op op_addU op2_add fe_int (fe_call (ok_take T) (hr.mono (by decide)) (by rfl) T.take.m T.take.fn.kp T.take.b tk (fas_box (i := 0) (fas_cons fe_int fas_nil)))) fas_nil)))))) fss_nil)
  (fss_cons (fs_set (i := 2) sc_long.nd (fe_call (ok_fit T) (hr.mono (by decide)) (by rfl) T.fit.m T.fit.fn.kp T.fit.b tk (fas_cons (fe_op op_sub op2_sub (fe_call (ok_take T) (hr.mono (by decide)) (by rfl) T.take.m T.take.fn.kp T.take.b tk (fas_box (i := 0) (fas_cons fe_int fas_nil))) fe_int) (fas_cons (fe_op op_sub op2_sub (fe_call (ok_take T) (hr.mono (by decide)) (by rfl) T.take.m T.take.fn.kp T.take.b tk (fas_box (i := 0) (fas_cons fe_int fas_nil))) fe_int) (fas_cons (fe_op op_addU op2_add fe_int (fe_call (ok_take T) (hr.mono (by decide)) (by rfl) T.take.m T.take.fn.kp T.take.b tk (fas_box (i := 0) (fas_cons fe_int fas_nil)))) fas_nil)))))
  (fss_cons (fs_if (ft_val (fe_call (ok_less T) (hr.mono (by decide)) (by rfl) T.less.m T.less.fn.kp T.less.b tk (fas_cons (fe_var 1) (fas_cons (fe_var 2) (fas_cons (fe_tup (fds_cons fe_int (fds_cons fe_int (fds_cons fe_int fds_nil)))) fas_nil))))) (fss_one (fs_ret (fe_tup (fds_cons (fe_op op_sub op2_sub fe_int (fe_ix (fe_var 2) fe_int)) (fds_cons (fe_op op_sub op2_sub fe_int (fe_ix (fe_var 2) fe_int)) (fds_cons (fe_ix (fe_var 2) fe_int) fds_nil)))))) fss_nil)
  (fss_one (fs_ret (fe_ix (fe_lst (fds_cons (fe_var 2) (fds_cons (fe_tup (fds_cons fe_int (fds_cons fe_int (fds_cons fe_int fds_nil)))) fds_nil))) (fe_callTy call_int1 opn_int1 (by rfl) T.z_int boot_int (fa_cons (fe_cmp (op_eqD hu) op2_eq (nomark _) (fe_var 2) (fe_tup (fds_cons fe_int (fds_cons fe_int (fds_cons fe_int fds_nil))))) fa_nil))))))))
theorem ok_p_is_change (T : Tx K mg) : FnS P w K mg base 6 T.p_is_change.f T.p_is_change.fd ["thing"] d_p_is_change := by
  unfold d_p_is_change
  exact fn_mk T.p_is_change.fn sc_p_is_change fun cdv A outer s H E J hr => by
    have tk : Takes (cxOf (L2.CX P w) P w K mg base ["thing", "root", "longs", "order", "one"] "is_change" (defScope s_p_is_change) T.p_is_change.f cdv A outer s H E) (fun cls d _ H' => E cls d H') := takes_of rfl rfl rfl rfl
    have hps : PassesOwn (model P w) (cxOf (L2.CX P w) P w K mg base ["thing", "root", "longs", "order", "one"] "is_change" (defScope s_p_is_change) T.p_is_change.f cdv A outer s H E).A (cxOf (L2.CX P w) P w K mg base ["thing", "root", "longs", "order", "one"] "is_change" (defScope s_p_is_change) T.p_is_change.f cdv A outer s H E).env (cxOf (L2.CX P w) P w K mg base ["thing", "root", "longs", "order", "one"] "is_change" (defScope s_p_is_change) T.p_is_change.f cdv A outer s H E).xe := passes_of rfl
    have hu := hr.units
    exact (fss_cons (fs_if (FW.ft (fw_or (ft_not (ft_val (fe_isi (by rfl) T.z_isinstance (by rfl) T.z_tuple boot_tuple (fe_var 0)))) (fw_or (ft_cmp (op_neD hu) op2_ne (nomark _) (fe_callB call_len opn_len (by rfl) T.z_len boot_len (fa_cons (fe_var 0) fa_nil)) fe_int) (fw_or1 (ft_not (ft_val (fe_call (ok_p_is_root T) (hr.mono (by decide)) (by rfl) T.p_is_root.m T.p_is_root.fn.kp T.p_is_root.b tk (fas_cons (fe_ix (fe_var 0) fe_int) fas_nil)))))))) (fss_one (fs_ret fe_bl)) fss_nil)
  (fss_cons (fs_unp (fe_var 0) (fg_tup rfl (fgs_cons (fg_name (i := 1) sc_p_is_change.nd) (fgs_cons (fg_name (i := 2) sc_p_is_change.nd) (fgs_cons (fg_name (i := 3) sc_p_is_change.nd) fgs_nil)))))
  (fss_cons (fs_if (FW.ft (fw_or (ft_not (ft_val (fe_isi (by rfl) T.z_isinstance (by rfl) T.z_tuple boot_tuple (fe_var 2)))) (fw_or1 (ft_not (ft_chain op_le op2_le op_le op2_le fe_int (fe_callB call_len opn_len (by rfl) T.z_len boot_len (fa_cons (fe_var 2) fa_nil)) (fe_gc T.g_MOST_PIECES_changes (by rfl))))))) (fss_one (fs_ret fe_bl)) fss_nil)
  (fss_cons (fs_if (ft_not (ft_val (fe_callB (cr_all rfl) opn_all (by rfl) T.z_all boot_all (fa_cons (fe_lc rfl sc_p_is_change.nd (fi_seq (fe_var 2)) (blkOk_by (own := [("one", 4)]) (by kernel_rfl)) (fun _ _ _ _ _ => (fg_name (i := 4) sc_p_is_change.nd)) (fun _ _ _ _ _ => fts_nil) (fun _ _ _ _ _ => (fe_and (fe_call (ok_p_is_number T) (hr.mono (by decide)) (by rfl) T.p_is_number.m T.p_is_number.fn.kp T.p_is_number.b takes0 (fas_cons (fe_var 1) (fas_cons (fe_var 4) fas_nil))) (fe_one (fe_call (ok_p_less T) (hr.mono (by decide)) (by rfl) T.p_less.m T.p_less.fn.kp T.p_less.b takes0 (fas_cons (fe_var 1) (fas_cons (fe_gc T.g_NOUGHT (by rfl)) (fas_cons (fe_var 4) fas_nil)))))))) fa_nil)))) (fss_one (fs_ret fe_bl)) fss_nil)
  (fss_cons (fs_if (FW.ft (fw_or (ft_not (ft_val (fe_isi (by rfl) T.z_isinstance (by rfl) T.z_tuple boot_tuple (fe_var 3)))) (fw_or1 (ft_not (ft_val (fe_callB (cr_all rfl) opn_all (by rfl) T.z_all boot_all (fa_cons (fe_lc rfl sc_p_is_change.nd (fi_seq (fe_var 3)) (blkOk_by (own := [("one", 4)]) (by kernel_rfl)) (fun _ _ _ _ _ => (fg_name (i := 4) sc_p_is_change.nd)) (fun _ _ _ _ _ => fts_nil) (fun _ _ _ _ _ => (fe_call (ok_p_is_whole T) (hr.mono (by decide)) (by rfl) T.p_is_whole.m T.p_is_whole.fn.kp T.p_is_whole.b takes0 (fas_cons (fe_var 4) fas_nil)))) fa_nil))))))) (fss_one (fs_ret fe_bl)) fss_nil)
  (fss_one (fs_ret (fe_cmp (op_eqD hu) op2_eq (nomark _) (fe_callB (cr_sortedI.or cr_sortedIT) opn_sorted (by rfl) T.z_sorted boot_sorted (fa_cons (fe_var 3) fa_nil)) (fe_listR1 rfl (by rfl) T.z_list (by rfl) T.z_range (fe_callB call_len opn_len (by rfl) T.z_len boot_len (fa_cons (fe_var 2) fa_nil)))))))))))
theorem ok_change (T : Tx K mg) : FnS P w K mg base 6 T.change.f T.change.fd ["_law_box_here", "_law_most", "_law_roots"] d_change := by
  unfold d_change
  exact fn_mk T.change.fn sc_change fun cdv A outer s H E J hr => by
    have tk : Takes (cxOf (L2.CX P w) P w K mg base ["_law_box_here", "_law_most", "_law_roots", "_law_root", "_law_many", "_law_longs", "_law_left", "_law_order", "_law_way", "_law_piece"] "_law_change" (defScope s_change) T.change.f cdv A outer s H E) (fun cls d _ H' => E cls d H') := takes_of rfl rfl rfl rfl
    have hps : PassesOwn (model P w) (cxOf (L2.CX P w) P w K mg base ["_law_box_here", "_law_most", "_law_roots", "_law_root", "_law_many", "_law_longs", "_law_left", "_law_order", "_law_way", "_law_piece"] "_law_change" (defScope s_change) T.change.f cdv A outer s H E).A (cxOf (L2.CX P w) P w K mg base ["_law_box_here", "_law_most", "_law_roots", "_law_root", "_law_many", "_law_longs", "_law_left", "_law_order", "_law_way", "_law_piece"] "_law_change" (defScope s_change) T.change.f cdv A outer s H E).env (cxOf (L2.CX P w) P w K mg base ["_law_box_here", "_law_most", "_law_roots", "_law_root", "_law_many", "_law_longs", "_law_left", "_law_order", "_law_way", "_law_piece"] "_law_change" (defScope s_change) T.change.f cdv A outer s H E).xe := passes_of rfl
    have hu := hr.units
    exact (fss_cons (fs_set (i := 3) sc_change.nd (fe_ix (fe_var 2) (fe_call (ok_take T) (hr.mono (by decide)) (by rfl) T.take.m T.take.fn.kp T.take.b tk (fas_box (i := 0) (fas_cons (fe_callB call_len opn_len (by rfl) T.z_len boot_len (fa_cons (fe_var 2) fa_nil)) fas_nil)))))
  (fss_cons (fs_set (i := 4) sc_change.nd (fe_op op_addU op2_add fe_int (fe_call (ok_take T) (hr.mono (by decide)) (by rfl) T.take.m T.take.fn.kp T.take.b tk (fas_box (i := 0) (fas_cons (fe_var 1) fas_nil)))))
  (fss_cons (fs_set (i := 5) sc_change.nd (fe_callTy call_tupleF opn_tuple (by rfl) T.z_tuple boot_tuple (fa_cons (fe_lc rfl sc_change.nd (fi_range1 (by rfl) T.z_range (fds_cons (fe_var 4) fds_nil)) (blkOk_by (own := [("_law_piece", 9)]) (by kernel_rfl)) (fun _ _ _ _ _ => (fg_name (i := 9) sc_change.nd)) (fun _ _ _ _ _ => fts_nil) (fun _ _ _ _ _ => (fe_call (ok_long T) (hr.mono (by decide)) (by rfl) T.long.m T.long.fn.kp T.long.b takes0 (fas_box (i := 0) (fas_cons (fe_var 3) fas_nil))))) fa_nil)))
  (fss_cons (fs_set (i := 6) sc_change.nd (fe_listR1 rfl (by rfl) T.z_list (by rfl) T.z_range (fe_var 4)))
  (fss_cons (fs_set (i := 7) sc_change.nd (fe_lst fds_nil))
  (fss_cons (fs_set (i := 8) sc_change.nd (fe_call (ok_take T) (hr.mono (by decide)) (by rfl) T.take.m T.take.fn.kp T.take.b tk (fas_box (i := 0) (fas_cons fe_int fas_nil))))
  (fss_cons (fs_while hps (ft_cmp (op_neD hu) op2_ne (nomark _) (fe_var 6) (fe_lst fds_nil)) (fss_one (fs_expr (fe_mt (i := 7) F.slot_list_append F.type_list_append mt_append opm_append (fds_cons (fe_mt (i := 6) F.slot_list_pop F.type_list_pop mt_popAt opm_popAt (fds_cons (fe_ix (fe_lst (fds_cons (fe_call (ok_take T) (hr.mono (by decide)) (by rfl) T.take.m T.take.fn.kp T.take.b tk (fas_box (i := 0) (fas_cons (fe_callB call_len opn_len (by rfl) T.z_len boot_len (fa_cons (fe_var 6) fa_nil)) fas_nil))) (fds_cons (fe_op op_sub op2_sub (fe_callB call_len opn_len (by rfl) T.z_len boot_len (fa_cons (fe_var 6) fa_nil)) fe_int) fds_nil))) (fe_callTy call_int1 opn_int1 (by rfl) T.z_int boot_int (fa_cons (fe_cmp (op_eqD hu) op2_eq (nomark _) (fe_var 8) fe_int) fa_nil))) fds_nil)) fds_nil)))))
  (fss_one (fs_ret (fe_tup (fds_cons (fe_var 3) (fds_cons (fe_var 5) (fds_cons (fe_callTy call_tupleF opn_tuple (by rfl) T.z_tuple boot_tuple (fa_cons (fe_var 7) fa_nil)) fds_nil)))))))))))))
theorem ok_p_side_by_side (T : Tx K mg) : FnS P w K mg base 7 T.p_side_by_side.f T.p_side_by_side.fd ["changes"] d_p_side_by_side := by
  unfold d_p_side_by_side
  exact fn_mk T.p_side_by_side.fn sc_p_side_by_side fun cdv A outer s H E J hr => by
    have tk : Takes (cxOf (L2.CX P w) P w K mg base ["changes", "longs", "order", "change", "piece"] "side_by_side" (defScope s_p_side_by_side) T.p_side_by_side.f cdv A outer s H E) (fun cls d _ H' => E cls d H') := takes_of rfl rfl rfl rfl
    have hps : PassesOwn (model P w) (cxOf (L2.CX P w) P w K mg base ["changes", "longs", "order", "change", "piece"] "side_by_side" (defScope s_p_side_by_side) T.p_side_by_side.f cdv A outer s H E).A (cxOf (L2.CX P w) P w K mg base ["changes", "longs", "order", "change", "piece"] "side_by_side" (defScope s_p_side_by_side) T.p_side_by_side.f cdv A outer s H E).env (cxOf (L2.CX P w) P w K mg base ["changes", "longs", "order", "change", "piece"] "side_by_side" (defScope s_p_side_by_side) T.p_side_by_side.f cdv A outer s H E).xe := passes_of rfl
    have hu := hr.units
    exact (fss_cons (fs_if (FW.ft (fw_or (ft_not (ft_val (fe_isi (by rfl) T.z_isinstance (by rfl) T.z_list boot_list (fe_var 0)))) (fw_or1 (ft_not (ft_chain op_le op2_le op_le op2_le fe_int (fe_callB call_len opn_len (by rfl) T.z_len boot_len (fa_cons (fe_var 0) fa_nil)) (fe_gc T.g_MOST_PIECES_parts (by rfl))))))) (fss_one (fs_raise T.e_NoChange rfl tk (by rfl))) fss_nil)
  (fss_cons (fs_if (ft_not (ft_val (fe_callB (cr_all rfl) opn_all (by rfl) T.z_all boot_all (fa_cons (fe_lc rfl sc_p_side_by_side.nd (fi_seq (fe_var 0)) (blkOk_by (own := [("change", 3)]) (by kernel_rfl)) (fun _ _ _ _ _ => (fg_name (i := 3) sc_p_side_by_side.nd)) (fun _ _ _ _ _ => fts_nil) (fun _ _ _ _ _ => (fe_call (ok_p_is_change T) (hr.mono (by decide)) (by rfl) T.p_is_change.m T.p_is_change.fn.kp T.p_is_change.b takes0 (fas_cons (fe_var 3) fas_nil)))) fa_nil)))) (fss_one (fs_raise T.e_NoChange rfl tk (by rfl))) fss_nil)
  (fss_cons (fs_if (ft_val (fe_callB (cr_any rfl) opn_any (by rfl) T.z_any boot_any (fa_cons (fe_lc rfl sc_p_side_by_side.nd (fi_seq (fe_var 0)) (blkOk_by (own := [("change", 3)]) (by kernel_rfl)) (fun _ _ _ _ _ => (fg_name (i := 3) sc_p_side_by_side.nd)) (fun _ _ _ _ _ => fts_nil) (fun _ _ _ _ _ => (fe_cmp (op_neD hu) op2_ne (nomark _) (fe_ix (fe_var 3) fe_int) (fe_ix (fe_ix (fe_var 0) fe_int) fe_int)))) fa_nil))) (fss_one (fs_raise T.e_Unlike rfl tk (by rfl))) fss_nil)
  (fss_cons (fs_set (i := 1) sc_p_side_by_side.nd (fe_tup fds_nil))
  (fss_cons (fs_set (i := 2) sc_p_side_by_side.nd (fe_tup fds_nil))
  (fss_cons (fs_for hps rfl (fi_seq (fe_var 0)) (fg_name (i := 3) sc_p_side_by_side.nd) (fss_cons (fs_set (i := 2) sc_p_side_by_side.nd (fe_op op_addU op2_add (fe_var 2) (fe_callTy call_tupleF opn_tuple (by rfl) T.z_tuple boot_tuple (fa_cons (fe_lc rfl sc_p_side_by_side.nd (fi_seq (fe_ix (fe_var 3) fe_int)) (blkOk_by (own := [("piece", 4)]) (by kernel_rfl)) (fun _ _ _ _ _ => (fg_name (i := 4) sc_p_side_by_side.nd)) (fun _ _ _ _ _ => fts_nil) (fun _ _ _ _ _ => (fe_op op_addU op2_add (fe_var 4) (fe_callB call_len opn_len (by rfl) T.z_len boot_len (fa_cons (fe_var 1) fa_nil))))) fa_nil))))
  (fss_one (fs_set (i := 1) sc_p_side_by_side.nd (fe_op op_addU op2_add (fe_var 1) (fe_ix (fe_var 3) fe_int))))))
  (fss_cons (fs_if (ft_cmp op_gt op2_gt (nomark _) (fe_callB call_len opn_len (by rfl) T.z_len boot_len (fa_cons (fe_var 1) fa_nil)) (fe_gc T.g_MOST_PIECES_parts (by rfl))) (fss_one (fs_raise T.e_TooMany rfl tk (by rfl))) fss_nil)
  (fss_one (fs_ret (fe_tup (fds_cons (fe_ix (fe_ix (fe_var 0) fe_int) fe_int) (fds_cons (fe_var 1) (fds_cons (fe_var 2) fds_nil)))))))))))))
theorem ok_said (T : Tx K mg) : FnS P w K mg base 8 T.said.f T.said.fd ["_law_thing"] d_said := by
  unfold d_said
  exact fn_mk T.said.fn sc_said fun cdv A outer s H E J hr => by
    have tk : Takes (cxOf (L2.CX P w) P w K mg base ["_law_thing", "_law_word", "_law_e"] "_law_said" (defScope s_said) T.said.f cdv A outer s H E) (fun cls d _ H' => E cls d H') := takes_of rfl rfl rfl rfl
    have hps : PassesOwn (model P w) (cxOf (L2.CX P w) P w K mg base ["_law_thing", "_law_word", "_law_e"] "_law_said" (defScope s_said) T.said.f cdv A outer s H E).A (cxOf (L2.CX P w) P w K mg base ["_law_thing", "_law_word", "_law_e"] "_law_said" (defScope s_said) T.said.f cdv A outer s H E).env (cxOf (L2.CX P w) P w K mg base ["_law_thing", "_law_word", "_law_e"] "_law_said" (defScope s_said) T.said.f cdv A outer s H E).xe := passes_of rfl
    skip
    exact (fss_cons (fs_set (i := 1) sc_said.nd fe_str)
  (fss_cons (fs_tryK (ie := 2) (iw := 1) rfl rfl sc_said.nd (by decide) ⟨by rfl, by decide, .inl T.c_StretchError.m⟩ tk (fun c w C h hm => kd_cases_kind h (fun e => by subst e; have z := hm.symm.trans T.e_NoChange.m; cases z; exact T.m_NoChange_StretchError) (fun e => by subst e; have z := hm.symm.trans T.e_TooMany.m; cases z; exact T.m_TooMany_StretchError) (fun e => by subst e; have z := hm.symm.trans T.e_Unlike.m; cases z; exact T.m_Unlike_StretchError)) (fun W' pn xe tk hps => (fss_one (fs_expr (fe_call (ok_p_side_by_side T) (hr.mono (by decide)) (by rfl) T.p_side_by_side.m T.p_side_by_side.fn.kp T.p_side_by_side.b tk (fas_cons (fe_var 0) fas_nil))))) (fun a oe pn c w C h hm hz hf => kd_cases_kind h (fun e => by subst e; have z := hm.symm.trans T.e_NoChange.m; cases z; obtain rfl := kd_word_kind_NoChange h; have F := kind_kind_NoChange (P := P) (w := w) (base := base) T (a, oe) hz hf; exact ⟨_, pss_one (ps_set (i := 1) sc_said.nd rfl (.inl rfl) (pe_callP (E := fun _ _ _ _ => False) F (roomHm (hr.mono (by decide)) _) List.mem_cons_self (by rfl) T.kind.m T.kind.fn.kp T.kind.b passE (pa_cons (pe_var (i := 2) rfl (.inl rfl)) pa_nil))), fun D σ H h q => suiteK (p := (a, oe)) h q⟩) (fun e => by subst e; have z := hm.symm.trans T.e_TooMany.m; cases z; obtain rfl := kd_word_kind_TooMany h; have F := kind_kind_TooMany (P := P) (w := w) (base := base) T (a, oe) hz hf; exact ⟨_, pss_one (ps_set (i := 1) sc_said.nd rfl (.inl rfl) (pe_callP (E := fun _ _ _ _ => False) F (roomHm (hr.mono (by decide)) _) List.mem_cons_self (by rfl) T.kind.m T.kind.fn.kp T.kind.b passE (pa_cons (pe_var (i := 2) rfl (.inl rfl)) pa_nil))), fun D σ H h q => suiteK (p := (a, oe)) h q⟩) (fun e => by subst e; have z := hm.symm.trans T.e_Unlike.m; cases z; obtain rfl := kd_word_kind_Unlike h; have F := kind_kind_Unlike (P := P) (w := w) (base := base) T (a, oe) hz hf; exact ⟨_, pss_one (ps_set (i := 1) sc_said.nd rfl (.inl rfl) (pe_callP (E := fun _ _ _ _ => False) F (roomHm (hr.mono (by decide)) _) List.mem_cons_self (by rfl) T.kind.m T.kind.fn.kp T.kind.b passE (pa_cons (pe_var (i := 2) rfl (.inl rfl)) pa_nil))), fun D σ H h q => suiteK (p := (a, oe)) h q⟩)))
  (fss_one (fs_ret (fe_var 1)))))
theorem ok_law (T : Tx K mg) : FnG P w K mg base (L2.CX P w) 9 T.law.f T.law.fd ["_law_script"] (spF K mg d_law) := by
  unfold d_law
  exact fn_mkG T.law.fn sc_law fun cdv A outer s H E J hr hgd => by
    have tk : Takes (cxOf (L2.CX P w) P w K mg base ["_law_script", "_law_k", "_law_box_here", "_law_root", "_law_changes", "_law_handed", "_law_one", "_law_odd_here", "_law_at", "_law_bad", "_law_thing", "_law_held", "_law_other", "_law_things", "_law_due_here", "_law_turn"] "law" (defScope s_law) T.law.f cdv A outer s H E) (fun cls d _ H' => E cls d H') := takes_of rfl rfl rfl rfl
    have hps : PassesOwn (model P w) (cxOf (L2.CX P w) P w K mg base ["_law_script", "_law_k", "_law_box_here", "_law_root", "_law_changes", "_law_handed", "_law_one", "_law_odd_here", "_law_at", "_law_bad", "_law_thing", "_law_held", "_law_other", "_law_things", "_law_due_here", "_law_turn"] "law" (defScope s_law) T.law.f cdv A outer s H E).A (cxOf (L2.CX P w) P w K mg base ["_law_script", "_law_k", "_law_box_here", "_law_root", "_law_changes", "_law_handed", "_law_one", "_law_odd_here", "_law_at", "_law_bad", "_law_thing", "_law_held", "_law_other", "_law_things", "_law_due_here", "_law_turn"] "law" (defScope s_law) T.law.f cdv A outer s H E).env (cxOf (L2.CX P w) P w K mg base ["_law_script", "_law_k", "_law_box_here", "_law_root", "_law_changes", "_law_handed", "_law_one", "_law_odd_here", "_law_at", "_law_bad", "_law_thing", "_law_held", "_law_other", "_law_things", "_law_due_here", "_law_turn"] "law" (defScope s_law) T.law.f cdv A outer s H E).xe := passes_of rfl
    have hu65 := Room.u65 hr
    have hu := hr.units
    exact (fss_cons (fs_for hps rfl (fi_range1 (by rfl) T.z_range (fds_cons (fe_callB (call_max2 rfl) opn_max2 (by rfl) T.z_max boot_max (fa_cons fe_int (fa_cons (fe_callB (call_min2 rfl) opn_min2 (by rfl) T.z_min boot_min (fa_cons (fe_callB call_len opn_len (by rfl) T.z_len boot_len (fa_cons (fe_var 0) fa_nil)) (fa_cons fe_int fa_nil))) fa_nil))) fds_nil)) (fg_name (i := 1) sc_law.nd) (fss_cons (fs_set (i := 2) sc_law.nd (fe_call (ok_box T) (hr.mono (by decide)) (by rfl) T.box.m T.box.fn.kp T.box.b tk (fas_cons (fe_var 0) (fas_cons (fe_var 1) fas_nil))))
  (fss_cons (fs_set (i := 3) sc_law.nd (fe_ix (fe_lst (fds_cons fe_int (fds_cons fe_int (fds_cons fe_int (fds_cons fe_int (fds_cons fe_int (fds_cons fe_int (fds_cons fe_int fds_nil)))))))) (fe_call (ok_take T) (hr.mono (by decide)) (by rfl) T.take.m T.take.fn.kp T.take.b tk (fas_box (i := 2) (fas_cons fe_int fas_nil)))))
  (fss_cons (fs_setLc (i := 4) rfl sc_law.nd (fi_range1 (by rfl) T.z_range (fds_cons (fe_op op_addU op2_add fe_int (fe_call (ok_take T) (hr.mono (by decide)) (by rfl) T.take.m T.take.fn.kp T.take.b tk (fas_box (i := 2) (fas_cons fe_int fas_nil)))) fds_nil)) (blkOk_by (own := [("_law_turn", 15)]) (by kernel_rfl)) (fun _ _ _ _ _ => (fg_name (i := 15) sc_law.nd)) (fun _ _ _ _ _ => fts_nil) (fun _ _ _ _ _ => (fe_call (ok_change T) (hr.mono (by decide)) (by rfl) T.change.m T.change.fn.kp T.change.b takes0 (fas_box (i := 2) (fas_cons fe_int (fas_cons (fe_lst (fds_cons (fe_var 3) fds_nil)) fas_nil))))) (sw_true rfl rfl rfl (by decide +kernel)))
  (fss_cons (fs_set (i := 5) sc_law.nd (fe_callTy call_list_of opn_list (by rfl) T.z_list boot_list (fa_cons (fe_var 4) fa_nil)))
  (fss_cons (fs_if (FW.ft (fw_or (ft_cmp (op_neD hu) op2_ne (nomark _) (fe_call (ok_p_side_by_side T) (hr.mono (by decide)) (by rfl) T.p_side_by_side.m T.p_side_by_side.fn.kp T.p_side_by_side.b tk (fas_cons (fe_var 5) fas_nil)) (fe_call (ok_due T) (hr.mono (by decide)) (by rfl) T.due.m T.due.fn.kp T.due.b tk (fas_cons (fe_var 4) fas_nil))) (fw_or1 (ft_cmp (op_neD hu) op2_ne (nomark _) (fe_var 5) (fe_var 4))))) (fss_one (fs_ret fe_bl)) fss_nil)
  (fss_cons (fs_set (i := 6) sc_law.nd (fe_ix (fe_var 4) fe_int))
  (fss_cons (fs_set (i := 7) sc_law.nd (fe_call (ok_odd T) (hr.mono (by decide)) (by rfl) T.odd.m T.odd.fn.kp T.odd.b tk (fas_box (i := 2) fas_nil)))
  (fss_cons (fs_set (i := 8) sc_law.nd (fe_call (ok_take T) (hr.mono (by decide)) (by rfl) T.take.m T.take.fn.kp T.take.b tk (fas_box (i := 2) (fas_cons (fe_op op_addU op2_add (fe_callB call_len opn_len (by rfl) T.z_len boot_len (fa_cons (fe_var 4) fa_nil)) fe_int) fas_nil))))
  (fss_cons (fs_set (i := 9) sc_law.nd (fe_lst (fds_cons (fe_lst fds_nil) (fds_cons (fe_op op_mulU op2_mul (fe_lst (fds_cons (fe_var 6) fds_nil)) fe_int) (fds_cons (fe_callTy call_tupleF opn_tuple (by rfl) T.z_tuple boot_tuple (fa_cons (fe_var 4) fa_nil)) (fds_cons fe_non (fds_cons (fe_var 7) (fds_cons (fe_op op_addU op2_add (fe_op op_addU op2_add (fe_slice (fe_var 4) fo_none (fo_some (fe_var 8))) (fe_lst (fds_cons (fe_var 7) fds_nil))) (fe_slice (fe_var 4) (fo_some (fe_var 8)) fo_none)) (fds_cons (fe_var 6) fds_nil)))))))))
  (fss_cons (fs_set (i := 9) sc_law.nd (fe_op op_addU op2_add (fe_var 9) (fe_lst (fds_cons (fe_lst (fds_cons (fe_slice (fe_var 6) (fo_some fe_int) fo_none) fds_nil)) (fds_cons (fe_lst (fds_cons (fe_callTy call_list_of opn_list (by rfl) T.z_list boot_list (fa_cons (fe_var 6) fa_nil)) fds_nil)) fds_nil)))))
  (fss_cons (fs_set (i := 9) sc_law.nd (fe_op op_addU op2_add (fe_var 9) (fe_lst (fds_cons (fe_lst (fds_cons (fe_tup (fds_cons (fe_ix (fe_var 6) fe_int) (fds_cons (fe_ix (fe_var 6) fe_int) (fds_cons (fe_op op_addU op2_add (fe_ix (fe_var 6) fe_int) (fe_tup (fds_cons fe_int fds_nil))) fds_nil)))) fds_nil)) (fds_cons (fe_lst (fds_cons (fe_tup (fds_cons (fe_ix (fe_var 6) fe_int) (fds_cons (fe_op op_addU op2_add (fe_slice (fe_ix (fe_var 6) fe_int) fo_none (fo_some (fe_un un_neg op1_neg fe_int))) (fe_tup (fds_cons (fe_tup (fds_cons fe_int (fds_cons fe_int (fds_cons fe_int fds_nil)))) fds_nil))) (fds_cons (fe_ix (fe_var 6) fe_int) fds_nil)))) fds_nil)) fds_nil)))))
  (fss_cons (fs_for hps rfl (fi_seq (fe_var 9)) (fg_name (i := 10) sc_law.nd) (fss_cons (fs_set (i := 11) sc_law.nd (fe_callB (call_reprM hgd hu65) opn_reprM (by rfl) T.z_repr boot_repr (fa_cons (fe_var 10) fa_nil)))
  (fss_one (fs_if (FW.ft (fw_or (ft_cmp (op_neD hu) op2_ne (nomark _) (fe_call (ok_said T) (hr.mono (by decide)) (by rfl) T.said.m T.said.fn.kp T.said.b tk (fas_cons (fe_var 10) fas_nil)) fe_str) (fw_or1 (ft_cmp (op_neD hu) op2_ne (nomark _) (fe_callB (call_reprM hgd hu65) opn_reprM (by rfl) T.z_repr boot_repr (fa_cons (fe_var 10) fa_nil)) (fe_var 11))))) (fss_one (fs_ret fe_bl)) fss_nil))))
  (fss_cons (fs_set (i := 12) sc_law.nd (fe_tup (fds_cons fe_int (fds_cons (fe_op op_mulT op2_mulT (fe_tup (fds_cons (fe_tup (fds_cons fe_int (fds_cons fe_int (fds_cons fe_int fds_nil)))) fds_nil)) fe_int) (fds_cons (fe_tup (fds_cons fe_int (fds_cons fe_int (fds_cons fe_int fds_nil)))) fds_nil)))))
  (fss_cons (fs_set (i := 13) sc_law.nd (fe_lst (fds_cons (fe_tup (fds_cons fe_str (fds_cons (fe_op op_addU op2_add (fe_var 4) (fe_lst (fds_cons (fe_var 12) fds_nil))) fds_nil))) (fds_cons (fe_tup (fds_cons fe_str (fds_cons (fe_op op_addU op2_add (fe_op op_mulU op2_mul (fe_lst (fds_cons (fe_var 12) fds_nil)) fe_int) (fe_lst (fds_cons (fe_var 6) fds_nil))) fds_nil))) fds_nil))))
  (fss_cons (fs_set (i := 13) sc_law.nd (fe_op op_addU op2_add (fe_var 13) (fe_lst (fds_cons (fe_tup (fds_cons fe_str (fds_cons (fe_op op_mulU op2_mul (fe_lst (fds_cons (fe_var 12) fds_nil)) fe_int) fds_nil))) (fds_cons (fe_tup (fds_cons fe_str (fds_cons (fe_op op_mulU op2_mul (fe_lst (fds_cons (fe_var 12) fds_nil)) fe_int) fds_nil))) fds_nil)))))
  (fss_cons (fs_expr (fe_mt (i := 13) F.slot_list_append F.type_list_append mt_append opm_append (fds_cons (fe_tup (fds_cons fe_str (fds_cons (fe_op op_addU op2_add (fe_var 4) (fe_lst (fds_cons (fe_var 12) (fds_cons (fe_var 7) fds_nil)))) fds_nil))) fds_nil)))
  (fss_cons (fs_expr (fe_mt (i := 13) F.slot_list_append F.type_list_append mt_append opm_append (fds_cons (fe_tup (fds_cons fe_str (fds_cons (fe_op op_addU op2_add (fe_op op_mulU op2_mul (fe_lst (fds_cons (fe_var 12) fds_nil)) fe_int) (fe_lst (fds_cons (fe_var 7) fds_nil))) fds_nil))) fds_nil)))
  (fss_cons (fs_expr (fe_mt (i := 13) F.slot_list_append F.type_list_append mt_append opm_append (fds_cons (fe_tup (fds_cons fe_str (fds_cons (fe_op op_addU op2_add (fe_op op_addU op2_add (fe_lst (fds_cons (fe_var 7) fds_nil)) (fe_op op_mulU op2_mul (fe_lst (fds_cons (fe_var 12) fds_nil)) fe_int)) (fe_var 4)) fds_nil))) fds_nil)))
  (fss_one (fs_for hps rfl (fi_seq (fe_var 13)) (fg_tup rfl (fgs_cons (fg_name (i := 14) sc_law.nd) (fgs_cons (fg_name (i := 10) sc_law.nd) fgs_nil))) (fss_cons (fs_set (i := 11) sc_law.nd (fe_callB (call_reprM hgd hu65) opn_reprM (by rfl) T.z_repr boot_repr (fa_cons (fe_var 10) fa_nil)))
  (fss_one (fs_if (FW.ft (fw_or (ft_cmp (op_neD hu) op2_ne (nomark _) (fe_call (ok_said T) (hr.mono (by decide)) (by rfl) T.said.m T.said.fn.kp T.said.b tk (fas_cons (fe_var 10) fas_nil)) (fe_var 14)) (fw_or1 (ft_cmp (op_neD hu) op2_ne (nomark _) (fe_callB (call_reprM hgd hu65) opn_reprM (by rfl) T.z_repr boot_repr (fa_cons (fe_var 10) fa_nil)) (fe_var 11))))) (fss_one (fs_ret fe_bl)) fss_nil))))))))))))))))))))))))
  (fss_one (fs_ret fe_bl)))
end
theorem all_mk {l : PySem.W.OpenLaw} {w : World} {K : PySem.W.Frag} {h : Heap} {mg : Str → Option Value} {fa : Addr} (X : K.In h) (G : h.Ns mainGlobals mg) (hfa : mg "law" = some (.ref fa))
    {f0 : Addr} {od0 an0 : Option Addr} {sl0 : Array (Option Value)} {oc0 kV0 dc0 pm0 cd0 ct0 : Value}
    (a0 : PySem.W.nsIn K mainGlobals "is_whole" = some (some (.ref f0))) (l0 : K.lookup f0 = some ⟨oc0, od0, .func (PySem.W.fnOf "is_whole" "is_whole" (defArgs s_p_is_whole) (defBody s_p_is_whole) (defScope s_p_is_whole) .none kV0 dc0 pm0 an0 cd0 ct0), sl0⟩) (c0 : PySem.W.codeIn K cd0 "is_whole" = true) (k0 : PySem.W.keepIn K (.ref f0) = true)
    {f1 : Addr} {od1 an1 : Option Addr} {sl1 : Array (Option Value)} {oc1 kV1 dc1 pm1 cd1 ct1 : Value}
    (a1 : PySem.W.nsIn K mainGlobals "divisor" = some (some (.ref f1))) (l1 : K.lookup f1 = some ⟨oc1, od1, .func (PySem.W.fnOf "divisor" "divisor" (defArgs s_p_divisor) (defBody s_p_divisor) (defScope s_p_divisor) .none kV1 dc1 pm1 an1 cd1 ct1), sl1⟩) (c1 : PySem.W.codeIn K cd1 "divisor" = true) (k1 : PySem.W.keepIn K (.ref f1) = true)
    {f2 : Addr} {od2 an2 : Option Addr} {sl2 : Array (Option Value)} {oc2 kV2 dc2 pm2 cd2 ct2 : Value}
    (a2 : PySem.W.nsIn K mainGlobals "sign_of" = some (some (.ref f2))) (l2 : K.lookup f2 = some ⟨oc2, od2, .func (PySem.W.fnOf "sign_of" "sign_of" (defArgs s_p_sign_of) (defBody s_p_sign_of) (defScope s_p_sign_of) .none kV2 dc2 pm2 an2 cd2 ct2), sl2⟩) (c2 : PySem.W.codeIn K cd2 "sign_of" = true) (k2 : PySem.W.keepIn K (.ref f2) = true)
    {f3 : Addr} {od3 an3 : Option Addr} {sl3 : Array (Option Value)} {oc3 kV3 dc3 pm3 cd3 ct3 : Value}
    (a3 : PySem.W.nsIn K mainGlobals "_law_cell" = some (some (.ref f3))) (l3 : K.lookup f3 = some ⟨oc3, od3, .func (PySem.W.fnOf "_law_cell" "_law_cell" (defArgs s_cell) (defBody s_cell) (defScope s_cell) .none kV3 dc3 pm3 an3 cd3 ct3), sl3⟩) (c3 : PySem.W.codeIn K cd3 "_law_cell" = true) (k3 : PySem.W.keepIn K (.ref f3) = true)
    {f4 : Addr} {od4 an4 : Option Addr} {sl4 : Array (Option Value)} {oc4 kV4 dc4 pm4 cd4 ct4 : Value}
    (a4 : PySem.W.nsIn K mainGlobals "_law_mix" = some (some (.ref f4))) (l4 : K.lookup f4 = some ⟨oc4, od4, .func (PySem.W.fnOf "_law_mix" "_law_mix" (defArgs s_mix) (defBody s_mix) (defScope s_mix) .none kV4 dc4 pm4 an4 cd4 ct4), sl4⟩) (c4 : PySem.W.codeIn K cd4 "_law_mix" = true) (k4 : PySem.W.keepIn K (.ref f4) = true)
    {f5 : Addr} {od5 an5 : Option Addr} {sl5 : Array (Option Value)} {oc5 kV5 dc5 pm5 cd5 ct5 : Value}
    (a5 : PySem.W.nsIn K mainGlobals "_law_take" = some (some (.ref f5))) (l5 : K.lookup f5 = some ⟨oc5, od5, .func (PySem.W.fnOf "_law_take" "_law_take" (defArgs s_take) (defBody s_take) (defScope s_take) .none kV5 dc5 pm5 an5 cd5 ct5), sl5⟩) (c5 : PySem.W.codeIn K cd5 "_law_take" = true) (k5 : PySem.W.keepIn K (.ref f5) = true)
    {f6 : Addr} {od6 an6 : Option Addr} {sl6 : Array (Option Value)} {oc6 kV6 dc6 pm6 cd6 ct6 : Value}
    (a6 : PySem.W.nsIn K mainGlobals "_law_fit" = some (some (.ref f6))) (l6 : K.lookup f6 = some ⟨oc6, od6, .func (PySem.W.fnOf "_law_fit" "_law_fit" (defArgs s_fit) (defBody s_fit) (defScope s_fit) .none kV6 dc6 pm6 an6 cd6 ct6), sl6⟩) (c6 : PySem.W.codeIn K cd6 "_law_fit" = true) (k6 : PySem.W.keepIn K (.ref f6) = true)
    {f7 : Addr} {od7 an7 : Option Addr} {sl7 : Array (Option Value)} {oc7 kV7 dc7 pm7 cd7 ct7 : Value}
    (a7 : PySem.W.nsIn K mainGlobals "_law_kind" = some (some (.ref f7))) (l7 : K.lookup f7 = some ⟨oc7, od7, .func (PySem.W.fnOf "_law_kind" "_law_kind" (defArgs s_kind) (defBody s_kind) (defScope s_kind) .none kV7 dc7 pm7 an7 cd7 ct7), sl7⟩) (c7 : PySem.W.codeIn K cd7 "_law_kind" = true) (k7 : PySem.W.keepIn K (.ref f7) = true)
    {f8 : Addr} {od8 an8 : Option Addr} {sl8 : Array (Option Value)} {oc8 kV8 dc8 pm8 cd8 ct8 : Value}
    (a8 : PySem.W.nsIn K mainGlobals "_law_due" = some (some (.ref f8))) (l8 : K.lookup f8 = some ⟨oc8, od8, .func (PySem.W.fnOf "_law_due" "_law_due" (defArgs s_due) (defBody s_due) (defScope s_due) .none kV8 dc8 pm8 an8 cd8 ct8), sl8⟩) (c8 : PySem.W.codeIn K cd8 "_law_due" = true) (k8 : PySem.W.keepIn K (.ref f8) = true)
    {f9 : Addr} {od9 an9 : Option Addr} {sl9 : Array (Option Value)} {oc9 kV9 dc9 pm9 cd9 ct9 : Value}
    (a9 : PySem.W.nsIn K mainGlobals "is_root" = some (some (.ref f9))) (l9 : K.lookup f9 = some ⟨oc9, od9, .func (PySem.W.fnOf "is_root" "is_root" (defArgs s_p_is_root) (defBody s_p_is_root) (defScope s_p_is_root) .none kV9 dc9 pm9 an9 cd9 ct9), sl9⟩) (c9 : PySem.W.codeIn K cd9 "is_root" = true) (k9 : PySem.W.keepIn K (.ref f9) = true)
    {f10 : Addr} {od10 an10 : Option Addr} {sl10 : Array (Option Value)} {oc10 kV10 dc10 pm10 cd10 ct10 : Value}
    (a10 : PySem.W.nsIn K mainGlobals "lowest" = some (some (.ref f10))) (l10 : K.lookup f10 = some ⟨oc10, od10, .func (PySem.W.fnOf "lowest" "lowest" (defArgs s_p_lowest) (defBody s_p_lowest) (defScope s_p_lowest) .none kV10 dc10 pm10 an10 cd10 ct10), sl10⟩) (c10 : PySem.W.codeIn K cd10 "lowest" = true) (k10 : PySem.W.keepIn K (.ref f10) = true)
    {f11 : Addr} {od11 an11 : Option Addr} {sl11 : Array (Option Value)} {oc11 kV11 dc11 pm11 cd11 ct11 : Value}
    (a11 : PySem.W.nsIn K mainGlobals "_law_box" = some (some (.ref f11))) (l11 : K.lookup f11 = some ⟨oc11, od11, .func (PySem.W.fnOf "_law_box" "_law_box" (defArgs s_box) (defBody s_box) (defScope s_box) .none kV11 dc11 pm11 an11 cd11 ct11), sl11⟩) (c11 : PySem.W.codeIn K cd11 "_law_box" = true) (k11 : PySem.W.keepIn K (.ref f11) = true)
    {f12 : Addr} {od12 an12 : Option Addr} {sl12 : Array (Option Value)} {oc12 kV12 dc12 pm12 cd12 ct12 : Value}
    (a12 : PySem.W.nsIn K mainGlobals "_law_plus" = some (some (.ref f12))) (l12 : K.lookup f12 = some ⟨oc12, od12, .func (PySem.W.fnOf "_law_plus" "_law_plus" (defArgs s_plus) (defBody s_plus) (defScope s_plus) .none kV12 dc12 pm12 an12 cd12 ct12), sl12⟩) (c12 : PySem.W.codeIn K cd12 "_law_plus" = true) (k12 : PySem.W.keepIn K (.ref f12) = true)
    {f13 : Addr} {od13 an13 : Option Addr} {sl13 : Array (Option Value)} {oc13 kV13 dc13 pm13 cd13 ct13 : Value}
    (a13 : PySem.W.nsIn K mainGlobals "_law_odd" = some (some (.ref f13))) (l13 : K.lookup f13 = some ⟨oc13, od13, .func (PySem.W.fnOf "_law_odd" "_law_odd" (defArgs s_odd) (defBody s_odd) (defScope s_odd) .none kV13 dc13 pm13 an13 cd13 ct13), sl13⟩) (c13 : PySem.W.codeIn K cd13 "_law_odd" = true) (k13 : PySem.W.keepIn K (.ref f13) = true)
    {f14 : Addr} {od14 an14 : Option Addr} {sl14 : Array (Option Value)} {oc14 kV14 dc14 pm14 cd14 ct14 : Value}
    (a14 : PySem.W.nsIn K mainGlobals "is_number" = some (some (.ref f14))) (l14 : K.lookup f14 = some ⟨oc14, od14, .func (PySem.W.fnOf "is_number" "is_number" (defArgs s_p_is_number) (defBody s_p_is_number) (defScope s_p_is_number) .none kV14 dc14 pm14 an14 cd14 ct14), sl14⟩) (c14 : PySem.W.codeIn K cd14 "is_number" = true) (k14 : PySem.W.keepIn K (.ref f14) = true)
    {f15 : Addr} {od15 an15 : Option Addr} {sl15 : Array (Option Value)} {oc15 kV15 dc15 pm15 cd15 ct15 : Value}
    (a15 : PySem.W.nsIn K mainGlobals "plus" = some (some (.ref f15))) (l15 : K.lookup f15 = some ⟨oc15, od15, .func (PySem.W.fnOf "plus" "plus" (defArgs s_p_plus) (defBody s_p_plus) (defScope s_p_plus) .none kV15 dc15 pm15 an15 cd15 ct15), sl15⟩) (c15 : PySem.W.codeIn K cd15 "plus" = true) (k15 : PySem.W.keepIn K (.ref f15) = true)
    {f16 : Addr} {od16 an16 : Option Addr} {sl16 : Array (Option Value)} {oc16 kV16 dc16 pm16 cd16 ct16 : Value}
    (a16 : PySem.W.nsIn K mainGlobals "_law_minus" = some (some (.ref f16))) (l16 : K.lookup f16 = some ⟨oc16, od16, .func (PySem.W.fnOf "_law_minus" "_law_minus" (defArgs s_minus) (defBody s_minus) (defScope s_minus) .none kV16 dc16 pm16 an16 cd16 ct16), sl16⟩) (c16 : PySem.W.codeIn K cd16 "_law_minus" = true) (k16 : PySem.W.keepIn K (.ref f16) = true)
    {f17 : Addr} {od17 an17 : Option Addr} {sl17 : Array (Option Value)} {oc17 kV17 dc17 pm17 cd17 ct17 : Value}
    (a17 : PySem.W.nsIn K mainGlobals "minus" = some (some (.ref f17))) (l17 : K.lookup f17 = some ⟨oc17, od17, .func (PySem.W.fnOf "minus" "minus" (defArgs s_p_minus) (defBody s_p_minus) (defScope s_p_minus) .none kV17 dc17 pm17 an17 cd17 ct17), sl17⟩) (c17 : PySem.W.codeIn K cd17 "minus" = true) (k17 : PySem.W.keepIn K (.ref f17) = true)
    {f18 : Addr} {od18 an18 : Option Addr} {sl18 : Array (Option Value)} {oc18 kV18 dc18 pm18 cd18 ct18 : Value}
    (a18 : PySem.W.nsIn K mainGlobals "_law_less" = some (some (.ref f18))) (l18 : K.lookup f18 = some ⟨oc18, od18, .func (PySem.W.fnOf "_law_less" "_law_less" (defArgs s_less) (defBody s_less) (defScope s_less) .none kV18 dc18 pm18 an18 cd18 ct18), sl18⟩) (c18 : PySem.W.codeIn K cd18 "_law_less" = true) (k18 : PySem.W.keepIn K (.ref f18) = true)
    {f19 : Addr} {od19 an19 : Option Addr} {sl19 : Array (Option Value)} {oc19 kV19 dc19 pm19 cd19 ct19 : Value}
    (a19 : PySem.W.nsIn K mainGlobals "less" = some (some (.ref f19))) (l19 : K.lookup f19 = some ⟨oc19, od19, .func (PySem.W.fnOf "less" "less" (defArgs s_p_less) (defBody s_p_less) (defScope s_p_less) .none kV19 dc19 pm19 an19 cd19 ct19), sl19⟩) (c19 : PySem.W.codeIn K cd19 "less" = true) (k19 : PySem.W.keepIn K (.ref f19) = true)
    {f20 : Addr} {od20 an20 : Option Addr} {sl20 : Array (Option Value)} {oc20 kV20 dc20 pm20 cd20 ct20 : Value}
    (a20 : PySem.W.nsIn K mainGlobals "_law_long" = some (some (.ref f20))) (l20 : K.lookup f20 = some ⟨oc20, od20, .func (PySem.W.fnOf "_law_long" "_law_long" (defArgs s_long) (defBody s_long) (defScope s_long) .none kV20 dc20 pm20 an20 cd20 ct20), sl20⟩) (c20 : PySem.W.codeIn K cd20 "_law_long" = true) (k20 : PySem.W.keepIn K (.ref f20) = true)
    {f21 : Addr} {od21 an21 : Option Addr} {sl21 : Array (Option Value)} {oc21 kV21 dc21 pm21 cd21 ct21 : Value}
    (a21 : PySem.W.nsIn K mainGlobals "is_change" = some (some (.ref f21))) (l21 : K.lookup f21 = some ⟨oc21, od21, .func (PySem.W.fnOf "is_change" "is_change" (defArgs s_p_is_change) (defBody s_p_is_change) (defScope s_p_is_change) .none kV21 dc21 pm21 an21 cd21 ct21), sl21⟩) (c21 : PySem.W.codeIn K cd21 "is_change" = true) (k21 : PySem.W.keepIn K (.ref f21) = true)
    {f22 : Addr} {od22 an22 : Option Addr} {sl22 : Array (Option Value)} {oc22 kV22 dc22 pm22 cd22 ct22 : Value}
    (a22 : PySem.W.nsIn K mainGlobals "_law_change" = some (some (.ref f22))) (l22 : K.lookup f22 = some ⟨oc22, od22, .func (PySem.W.fnOf "_law_change" "_law_change" (defArgs s_change) (defBody s_change) (defScope s_change) .none kV22 dc22 pm22 an22 cd22 ct22), sl22⟩) (c22 : PySem.W.codeIn K cd22 "_law_change" = true) (k22 : PySem.W.keepIn K (.ref f22) = true)
    {f23 : Addr} {od23 an23 : Option Addr} {sl23 : Array (Option Value)} {oc23 kV23 dc23 pm23 cd23 ct23 : Value}
    (a23 : PySem.W.nsIn K mainGlobals "side_by_side" = some (some (.ref f23))) (l23 : K.lookup f23 = some ⟨oc23, od23, .func (PySem.W.fnOf "side_by_side" "side_by_side" (defArgs s_p_side_by_side) (defBody s_p_side_by_side) (defScope s_p_side_by_side) .none kV23 dc23 pm23 an23 cd23 ct23), sl23⟩) (c23 : PySem.W.codeIn K cd23 "side_by_side" = true) (k23 : PySem.W.keepIn K (.ref f23) = true)
    {f24 : Addr} {od24 an24 : Option Addr} {sl24 : Array (Option Value)} {oc24 kV24 dc24 pm24 cd24 ct24 : Value}
    (a24 : PySem.W.nsIn K mainGlobals "_law_said" = some (some (.ref f24))) (l24 : K.lookup f24 = some ⟨oc24, od24, .func (PySem.W.fnOf "_law_said" "_law_said" (defArgs s_said) (defBody s_said) (defScope s_said) .none kV24 dc24 pm24 an24 cd24 ct24), sl24⟩) (c24 : PySem.W.codeIn K cd24 "_law_said" = true) (k24 : PySem.W.keepIn K (.ref f24) = true)
    {f25 : Addr} {od25 an25 : Option Addr} {sl25 : Array (Option Value)} {oc25 kV25 dc25 pm25 cd25 ct25 : Value}
    (a25 : PySem.W.nsIn K mainGlobals "law" = some (some (.ref f25))) (l25 : K.lookup f25 = some ⟨oc25, od25, .func (PySem.W.fnOf "law" "law" (defArgs s_law) (defBody s_law) (defScope s_law) .none kV25 dc25 pm25 an25 cd25 ct25), sl25⟩) (c25 : PySem.W.codeIn K cd25 "law" = true) (k25 : PySem.W.keepIn K (.ref f25) = true)
    {CcNoChange : Addr} (yc_NoChange : PySem.W.nsIn K mainGlobals "NoChange" = some (some (.ref CcNoChange)))
    {CcNoNumber : Addr} (yc_NoNumber : PySem.W.nsIn K mainGlobals "NoNumber" = some (some (.ref CcNoNumber)))
    {CcNoPoint : Addr} (yc_NoPoint : PySem.W.nsIn K mainGlobals "NoPoint" = some (some (.ref CcNoPoint)))
    {CcNoStep : Addr} (yc_NoStep : PySem.W.nsIn K mainGlobals "NoStep" = some (some (.ref CcNoStep)))
    {CcNoWord : Addr} (yc_NoWord : PySem.W.nsIn K mainGlobals "NoWord" = some (some (.ref CcNoWord)))
    {CcStretchError : Addr} (yc_StretchError : PySem.W.nsIn K mainGlobals "StretchError" = some (some (.ref CcStretchError)))
    {CcTooMany : Addr} (yc_TooMany : PySem.W.nsIn K mainGlobals "TooMany" = some (some (.ref CcTooMany)))
    {CcUnlike : Addr} (yc_Unlike : PySem.W.nsIn K mainGlobals "Unlike" = some (some (.ref CcUnlike)))
    {CeNoChange : Addr} (ye_NoChange : PySem.W.nsIn K mainGlobals "NoChange" = some (some (.ref CeNoChange))) (yq_NoChange : PySem.W.excIn K CeNoChange [.type "ValueError", .type "Exception", .type "BaseException", .type "object"] "ValueError.__new__" = true) (yk_NoChange : PySem.W.keepIn K (.ref CeNoChange) = true) (yb_NoChange : PySem.W.subIn K (.ref CeNoChange) (.type "BaseException") = some true) (yt_NoChange : PySem.W.typeIn K (.ref CeNoChange) = some (.type "type"))
    (yx1_NoChange : PySem.W.findIn K (.ref CeNoChange) "__getattribute__" = some (some (.builtin "BaseException.__getattribute__"))) (yx2_NoChange : PySem.W.findIn K (.ref CeNoChange) "__getattr__" = some none) (yx4_NoChange : PySem.W.hasDictIn K CeNoChange = true) (yx5_NoChange : PySem.W.findIn K (.ref CeNoChange) "__class__" = some (some (.builtin "object.__class__"))) (yx8_NoChange : PySem.W.mroIn K CeNoChange (.type "object") = some true)
    (ym_NoChange_StretchError : PySem.W.exmOne K (.ref CeNoChange) (.ref CcStretchError) = some true)
    (yi_NoChange_NoChange : PySem.W.kitOne K (.ref CeNoChange) (.ref CcNoChange) = some true)
    (yi_NoChange_NoNumber : PySem.W.kitOne K (.ref CeNoChange) (.ref CcNoNumber) = some false)
    (yi_NoChange_NoPoint : PySem.W.kitOne K (.ref CeNoChange) (.ref CcNoPoint) = some false)
    (yi_NoChange_NoStep : PySem.W.kitOne K (.ref CeNoChange) (.ref CcNoStep) = some false)
    (yi_NoChange_NoWord : PySem.W.kitOne K (.ref CeNoChange) (.ref CcNoWord) = some false)
    (yi_NoChange_TooMany : PySem.W.kitOne K (.ref CeNoChange) (.ref CcTooMany) = some false)
    (yi_NoChange_Unlike : PySem.W.kitOne K (.ref CeNoChange) (.ref CcUnlike) = some false)
    {CeTooMany : Addr} (ye_TooMany : PySem.W.nsIn K mainGlobals "TooMany" = some (some (.ref CeTooMany))) (yq_TooMany : PySem.W.excIn K CeTooMany [.type "ValueError", .type "Exception", .type "BaseException", .type "object"] "ValueError.__new__" = true) (yk_TooMany : PySem.W.keepIn K (.ref CeTooMany) = true) (yb_TooMany : PySem.W.subIn K (.ref CeTooMany) (.type "BaseException") = some true) (yt_TooMany : PySem.W.typeIn K (.ref CeTooMany) = some (.type "type"))
    (yx1_TooMany : PySem.W.findIn K (.ref CeTooMany) "__getattribute__" = some (some (.builtin "BaseException.__getattribute__"))) (yx2_TooMany : PySem.W.findIn K (.ref CeTooMany) "__getattr__" = some none) (yx4_TooMany : PySem.W.hasDictIn K CeTooMany = true) (yx5_TooMany : PySem.W.findIn K (.ref CeTooMany) "__class__" = some (some (.builtin "object.__class__"))) (yx8_TooMany : PySem.W.mroIn K CeTooMany (.type "object") = some true)
    (ym_TooMany_StretchError : PySem.W.exmOne K (.ref CeTooMany) (.ref CcStretchError) = some true)
    (yi_TooMany_NoChange : PySem.W.kitOne K (.ref CeTooMany) (.ref CcNoChange) = some false)
    (yi_TooMany_NoNumber : PySem.W.kitOne K (.ref CeTooMany) (.ref CcNoNumber) = some false)
    (yi_TooMany_NoPoint : PySem.W.kitOne K (.ref CeTooMany) (.ref CcNoPoint) = some false)
    (yi_TooMany_NoStep : PySem.W.kitOne K (.ref CeTooMany) (.ref CcNoStep) = some false)
    (yi_TooMany_NoWord : PySem.W.kitOne K (.ref CeTooMany) (.ref CcNoWord) = some false)
    (yi_TooMany_TooMany : PySem.W.kitOne K (.ref CeTooMany) (.ref CcTooMany) = some true)
    (yi_TooMany_Unlike : PySem.W.kitOne K (.ref CeTooMany) (.ref CcUnlike) = some false)
    {CeUnlike : Addr} (ye_Unlike : PySem.W.nsIn K mainGlobals "Unlike" = some (some (.ref CeUnlike))) (yq_Unlike : PySem.W.excIn K CeUnlike [.type "ValueError", .type "Exception", .type "BaseException", .type "object"] "ValueError.__new__" = true) (yk_Unlike : PySem.W.keepIn K (.ref CeUnlike) = true) (yb_Unlike : PySem.W.subIn K (.ref CeUnlike) (.type "BaseException") = some true) (yt_Unlike : PySem.W.typeIn K (.ref CeUnlike) = some (.type "type"))
    (yx1_Unlike : PySem.W.findIn K (.ref CeUnlike) "__getattribute__" = some (some (.builtin "BaseException.__getattribute__"))) (yx2_Unlike : PySem.W.findIn K (.ref CeUnlike) "__getattr__" = some none) (yx4_Unlike : PySem.W.hasDictIn K CeUnlike = true) (yx5_Unlike : PySem.W.findIn K (.ref CeUnlike) "__class__" = some (some (.builtin "object.__class__"))) (yx8_Unlike : PySem.W.mroIn K CeUnlike (.type "object") = some true)
    (ym_Unlike_StretchError : PySem.W.exmOne K (.ref CeUnlike) (.ref CcStretchError) = some true)
    (yi_Unlike_NoChange : PySem.W.kitOne K (.ref CeUnlike) (.ref CcNoChange) = some false)
    (yi_Unlike_NoNumber : PySem.W.kitOne K (.ref CeUnlike) (.ref CcNoNumber) = some false)
    (yi_Unlike_NoPoint : PySem.W.kitOne K (.ref CeUnlike) (.ref CcNoPoint) = some false)
    (yi_Unlike_NoStep : PySem.W.kitOne K (.ref CeUnlike) (.ref CcNoStep) = some false)
    (yi_Unlike_NoWord : PySem.W.kitOne K (.ref CeUnlike) (.ref CcNoWord) = some false)
    (yi_Unlike_TooMany : PySem.W.kitOne K (.ref CeUnlike) (.ref CcTooMany) = some false)
    (yi_Unlike_Unlike : PySem.W.kitOne K (.ref CeUnlike) (.ref CcUnlike) = some true)
    (yx6 : PySem.W.specialIn K (.builtin "object.__class__") "__get__" = some (some (.builtin "getset_descriptor.__get__"))) (yx7 : PySem.W.takesIn K (.builtin "object.__class__") = some true)
    {tgMOST_PIECES_changes : Tok} (yg_MOST_PIECES_changes : PySem.W.nsIn K mainGlobals "MOST_PIECES_changes" = some (some (.int 12 tgMOST_PIECES_changes)))
    {tgMOST_PIECES_parts : Tok} (yg_MOST_PIECES_parts : PySem.W.nsIn K mainGlobals "MOST_PIECES_parts" = some (some (.int 12 tgMOST_PIECES_parts)))
    {tgMOST_ROOT : Tok} (yg_MOST_ROOT : PySem.W.nsIn K mainGlobals "MOST_ROOT" = some (some (.int 99 tgMOST_ROOT)))
    {agNOUGHT : Addr} {tgNOUGHT0 : Tok} {tgNOUGHT1 : Tok} {tgNOUGHT2 : Tok} {ngNOUGHT : Nat} {sgNOUGHT : Array (Option Value)} (yg_NOUGHT : PySem.W.nsIn K mainGlobals "NOUGHT" = some (some (.ref agNOUGHT))) (yl_NOUGHT : K.lookup agNOUGHT = some ⟨.type "tuple", none, .seq #[.int 0 tgNOUGHT0, .int 0 tgNOUGHT1, .int 1 tgNOUGHT2] ngNOUGHT, sgNOUGHT⟩)
    (z_abs : PySem.W.nsIn K mainGlobals "abs" = some none)
    (z_all : PySem.W.nsIn K mainGlobals "all" = some none)
    (z_any : PySem.W.nsIn K mainGlobals "any" = some none)
    (z_bool : PySem.W.nsIn K mainGlobals "bool" = some none)
    (z_divmod : PySem.W.nsIn K mainGlobals "divmod" = some none)
    (z_int : PySem.W.nsIn K mainGlobals "int" = some none)
    (z_isinstance : PySem.W.nsIn K mainGlobals "isinstance" = some none)
    (z_len : PySem.W.nsIn K mainGlobals "len" = some none)
    (z_list : PySem.W.nsIn K mainGlobals "list" = some none)
    (z_max : PySem.W.nsIn K mainGlobals "max" = some none)
    (z_min : PySem.W.nsIn K mainGlobals "min" = some none)
    (z_range : PySem.W.nsIn K mainGlobals "range" = some none)
    (z_repr : PySem.W.nsIn K mainGlobals "repr" = some none)
    (z_sorted : PySem.W.nsIn K mainGlobals "sorted" = some none)
    (z_tuple : PySem.W.nsIn K mainGlobals "tuple" = some none)
    : ∃ fd : FuncData, (∀ (s : Shared) (v : Value), BindsTo s fd ⟨[v], []⟩ [("_law_script", v)]) ∧ ∀ base : Heap, FnG l.prog w K mg base (L2.CX l.prog w) 9 fa fd ["_law_script"] (spF K mg d_law) := by
  have e := hfa.symm.trans (PySem.W.mg_of X G a25)
  cases e
  have F0 := fun_mk (st := s_p_is_whole) l0 c0 k0
  have b0 := F0.binds (ps := ["thing"]) fun _ _ _ _ _ _ us hl => match us, hl with | [_], _ => rfl
  have F1 := fun_mk (st := s_p_divisor) l1 c1 k1
  have b1 := F1.binds (ps := ["one", "other"]) fun _ _ _ _ _ _ us hl => match us, hl with | [_, _], _ => rfl
  have F2 := fun_mk (st := s_p_sign_of) l2 c2 k2
  have b2 := F2.binds (ps := ["root", "one"]) fun _ _ _ _ _ _ us hl => match us, hl with | [_, _], _ => rfl
  have F3 := fun_mk (st := s_cell) l3 c3 k3
  have b3 := F3.binds (ps := ["_law_script", "_law_k"]) fun _ _ _ _ _ _ us hl => match us, hl with | [_, _], _ => rfl
  have F4 := fun_mk (st := s_mix) l4 c4 k4
  have b4 := F4.binds (ps := ["_law_cell_here", "_law_k"]) fun _ _ _ _ _ _ us hl => match us, hl with | [_, _], _ => rfl
  have F5 := fun_mk (st := s_take) l5 c5 k5
  have b5 := F5.binds (ps := ["_law_box_here", "_law_many"]) fun _ _ _ _ _ _ us hl => match us, hl with | [_, _], _ => rfl
  have F6 := fun_mk (st := s_fit) l6 c6 k6
  have b6 := F6.binds (ps := ["_law_a", "_law_b", "_law_c"]) fun _ _ _ _ _ _ us hl => match us, hl with | [_, _, _], _ => rfl
  have F7 := fun_mk (st := s_kind) l7 c7 k7
  have b7 := F7.binds (ps := ["_law_e"]) fun _ _ _ _ _ _ us hl => match us, hl with | [_], _ => rfl
  have F8 := fun_mk (st := s_due) l8 c8 k8
  have b8 := F8.binds (ps := ["_law_changes"]) fun _ _ _ _ _ _ us hl => match us, hl with | [_], _ => rfl
  have F9 := fun_mk (st := s_p_is_root) l9 c9 k9
  have b9 := F9.binds (ps := ["thing"]) fun _ _ _ _ _ _ us hl => match us, hl with | [_], _ => rfl
  have F10 := fun_mk (st := s_p_lowest) l10 c10 k10
  have b10 := F10.binds (ps := ["a", "b", "c"]) fun _ _ _ _ _ _ us hl => match us, hl with | [_, _, _], _ => rfl
  have F11 := fun_mk (st := s_box) l11 c11 k11
  have b11 := F11.binds (ps := ["_law_script", "_law_k"]) fun _ _ _ _ _ _ us hl => match us, hl with | [_, _], _ => rfl
  have F12 := fun_mk (st := s_plus) l12 c12 k12
  have b12 := F12.binds (ps := ["_law_one", "_law_other"]) fun _ _ _ _ _ _ us hl => match us, hl with | [_, _], _ => rfl
  have F13 := fun_mk (st := s_odd) l13 c13 k13
  have b13 := F13.binds (ps := ["_law_box_here"]) fun _ _ _ _ _ _ us hl => match us, hl with | [_], _ => rfl
  have F14 := fun_mk (st := s_p_is_number) l14 c14 k14
  have b14 := F14.binds (ps := ["root", "thing"]) fun _ _ _ _ _ _ us hl => match us, hl with | [_, _], _ => rfl
  have F15 := fun_mk (st := s_p_plus) l15 c15 k15
  have b15 := F15.binds (ps := ["root", "one", "other"]) fun _ _ _ _ _ _ us hl => match us, hl with | [_, _, _], _ => rfl
  have F16 := fun_mk (st := s_minus) l16 c16 k16
  have b16 := F16.binds (ps := ["_law_one", "_law_other"]) fun _ _ _ _ _ _ us hl => match us, hl with | [_, _], _ => rfl
  have F17 := fun_mk (st := s_p_minus) l17 c17 k17
  have b17 := F17.binds (ps := ["root", "one", "other"]) fun _ _ _ _ _ _ us hl => match us, hl with | [_, _, _], _ => rfl
  have F18 := fun_mk (st := s_less) l18 c18 k18
  have b18 := F18.binds (ps := ["_law_root", "_law_one", "_law_other"]) fun _ _ _ _ _ _ us hl => match us, hl with | [_, _, _], _ => rfl
  have F19 := fun_mk (st := s_p_less) l19 c19 k19
  have b19 := F19.binds (ps := ["root", "one", "other"]) fun _ _ _ _ _ _ us hl => match us, hl with | [_, _, _], _ => rfl
  have F20 := fun_mk (st := s_long) l20 c20 k20
  have b20 := F20.binds (ps := ["_law_box_here", "_law_root"]) fun _ _ _ _ _ _ us hl => match us, hl with | [_, _], _ => rfl
  have F21 := fun_mk (st := s_p_is_change) l21 c21 k21
  have b21 := F21.binds (ps := ["thing"]) fun _ _ _ _ _ _ us hl => match us, hl with | [_], _ => rfl
  have F22 := fun_mk (st := s_change) l22 c22 k22
  have b22 := F22.binds (ps := ["_law_box_here", "_law_most", "_law_roots"]) fun _ _ _ _ _ _ us hl => match us, hl with | [_, _, _], _ => rfl
  have F23 := fun_mk (st := s_p_side_by_side) l23 c23 k23
  have b23 := F23.binds (ps := ["changes"]) fun _ _ _ _ _ _ us hl => match us, hl with | [_], _ => rfl
  have F24 := fun_mk (st := s_said) l24 c24 k24
  have b24 := F24.binds (ps := ["_law_thing"]) fun _ _ _ _ _ _ us hl => match us, hl with | [_], _ => rfl
  have F25 := fun_mk (st := s_law) l25 c25 k25
  have b25 := F25.binds (ps := ["_law_script"]) fun _ _ _ _ _ _ us hl => match us, hl with | [_], _ => rfl
  exact ⟨_, fun s v => .of_eq rfl, fun base => ok_law (T := {
    p_is_whole := ⟨_, _, F0, b0, PySem.W.mg_of X G a0⟩
    p_divisor := ⟨_, _, F1, b1, PySem.W.mg_of X G a1⟩
    p_sign_of := ⟨_, _, F2, b2, PySem.W.mg_of X G a2⟩
    cell := ⟨_, _, F3, b3, PySem.W.mg_of X G a3⟩
    mix := ⟨_, _, F4, b4, PySem.W.mg_of X G a4⟩
    take := ⟨_, _, F5, b5, PySem.W.mg_of X G a5⟩
    fit := ⟨_, _, F6, b6, PySem.W.mg_of X G a6⟩
    kind := ⟨_, _, F7, b7, PySem.W.mg_of X G a7⟩
    due := ⟨_, _, F8, b8, PySem.W.mg_of X G a8⟩
    p_is_root := ⟨_, _, F9, b9, PySem.W.mg_of X G a9⟩
    p_lowest := ⟨_, _, F10, b10, PySem.W.mg_of X G a10⟩
    box := ⟨_, _, F11, b11, PySem.W.mg_of X G a11⟩
    plus := ⟨_, _, F12, b12, PySem.W.mg_of X G a12⟩
    odd := ⟨_, _, F13, b13, PySem.W.mg_of X G a13⟩
    p_is_number := ⟨_, _, F14, b14, PySem.W.mg_of X G a14⟩
    p_plus := ⟨_, _, F15, b15, PySem.W.mg_of X G a15⟩
    minus := ⟨_, _, F16, b16, PySem.W.mg_of X G a16⟩
    p_minus := ⟨_, _, F17, b17, PySem.W.mg_of X G a17⟩
    less := ⟨_, _, F18, b18, PySem.W.mg_of X G a18⟩
    p_less := ⟨_, _, F19, b19, PySem.W.mg_of X G a19⟩
    long := ⟨_, _, F20, b20, PySem.W.mg_of X G a20⟩
    p_is_change := ⟨_, _, F21, b21, PySem.W.mg_of X G a21⟩
    change := ⟨_, _, F22, b22, PySem.W.mg_of X G a22⟩
    p_side_by_side := ⟨_, _, F23, b23, PySem.W.mg_of X G a23⟩
    said := ⟨_, _, F24, b24, PySem.W.mg_of X G a24⟩
    law := ⟨_, _, F25, b25, PySem.W.mg_of X G a25⟩
    c_NoChange := ⟨_, PySem.W.mg_of X G yc_NoChange⟩
    c_NoNumber := ⟨_, PySem.W.mg_of X G yc_NoNumber⟩
    c_NoPoint := ⟨_, PySem.W.mg_of X G yc_NoPoint⟩
    c_NoStep := ⟨_, PySem.W.mg_of X G yc_NoStep⟩
    c_NoWord := ⟨_, PySem.W.mg_of X G yc_NoWord⟩
    c_StretchError := ⟨_, PySem.W.mg_of X G yc_StretchError⟩
    c_TooMany := ⟨_, PySem.W.mg_of X G yc_TooMany⟩
    c_Unlike := ⟨_, PySem.W.mg_of X G yc_Unlike⟩
    e_NoChange := ⟨_, PySem.W.mg_of X G ye_NoChange, yq_NoChange, yk_NoChange, yb_NoChange, yt_NoChange⟩
    x_NoChange := ⟨yx1_NoChange, yx2_NoChange, yb_NoChange, yx4_NoChange, yx5_NoChange, yx6, yx7, yx8_NoChange⟩
    m_NoChange_StretchError := ym_NoChange_StretchError
    i_NoChange_NoChange := yi_NoChange_NoChange
    i_NoChange_NoNumber := yi_NoChange_NoNumber
    i_NoChange_NoPoint := yi_NoChange_NoPoint
    i_NoChange_NoStep := yi_NoChange_NoStep
    i_NoChange_NoWord := yi_NoChange_NoWord
    i_NoChange_TooMany := yi_NoChange_TooMany
    i_NoChange_Unlike := yi_NoChange_Unlike
    e_TooMany := ⟨_, PySem.W.mg_of X G ye_TooMany, yq_TooMany, yk_TooMany, yb_TooMany, yt_TooMany⟩
    x_TooMany := ⟨yx1_TooMany, yx2_TooMany, yb_TooMany, yx4_TooMany, yx5_TooMany, yx6, yx7, yx8_TooMany⟩
    m_TooMany_StretchError := ym_TooMany_StretchError
    i_TooMany_NoChange := yi_TooMany_NoChange
    i_TooMany_NoNumber := yi_TooMany_NoNumber
    i_TooMany_NoPoint := yi_TooMany_NoPoint
    i_TooMany_NoStep := yi_TooMany_NoStep
    i_TooMany_NoWord := yi_TooMany_NoWord
    i_TooMany_TooMany := yi_TooMany_TooMany
    i_TooMany_Unlike := yi_TooMany_Unlike
    e_Unlike := ⟨_, PySem.W.mg_of X G ye_Unlike, yq_Unlike, yk_Unlike, yb_Unlike, yt_Unlike⟩
    x_Unlike := ⟨yx1_Unlike, yx2_Unlike, yb_Unlike, yx4_Unlike, yx5_Unlike, yx6, yx7, yx8_Unlike⟩
    m_Unlike_StretchError := ym_Unlike_StretchError
    i_Unlike_NoChange := yi_Unlike_NoChange
    i_Unlike_NoNumber := yi_Unlike_NoNumber
    i_Unlike_NoPoint := yi_Unlike_NoPoint
    i_Unlike_NoStep := yi_Unlike_NoStep
    i_Unlike_NoWord := yi_Unlike_NoWord
    i_Unlike_TooMany := yi_Unlike_TooMany
    i_Unlike_Unlike := yi_Unlike_Unlike
    g_MOST_PIECES_changes := gc_int (PySem.W.mg_of X G yg_MOST_PIECES_changes)
    g_MOST_PIECES_parts := gc_int (PySem.W.mg_of X G yg_MOST_PIECES_parts)
    g_MOST_ROOT := gc_int (PySem.W.mg_of X G yg_MOST_ROOT)
    g_NOUGHT := gc_tup (vs := [.int 0, .int 0, .int 1]) (PySem.W.mg_of X G yg_NOUGHT) yl_NOUGHT (.cons ⟨_, rfl⟩ (.cons ⟨_, rfl⟩ (.cons ⟨_, rfl⟩ .nil))) (Nat.le_of_ble_eq_true rfl) (fun S => (.cons (.int _) (.cons (.int _) (.cons (.int _) .nil))))
    z_abs := PySem.W.mg_none_of X G z_abs
    z_all := PySem.W.mg_none_of X G z_all
    z_any := PySem.W.mg_none_of X G z_any
    z_bool := PySem.W.mg_none_of X G z_bool
    z_divmod := PySem.W.mg_none_of X G z_divmod
    z_int := PySem.W.mg_none_of X G z_int
    z_isinstance := PySem.W.mg_none_of X G z_isinstance
    z_len := PySem.W.mg_none_of X G z_len
    z_list := PySem.W.mg_none_of X G z_list
    z_max := PySem.W.mg_none_of X G z_max
    z_min := PySem.W.mg_none_of X G z_min
    z_range := PySem.W.mg_none_of X G z_range
    z_repr := PySem.W.mg_none_of X G z_repr
    z_sorted := PySem.W.mg_none_of X G z_sorted
    z_tuple := PySem.W.mg_none_of X G z_tuple
  })⟩
end Fx.L

namespace Fx.L
open PySem PySem.Spec PyProof.Rows L2
/-! ### the script's cells, boxes -/
theorem take_eq {n m : Int} (h : divOk n m = true) : d_take [.own 1 (.list [.int n]), .dat (.int m)] = some (.inr (false, .int (n.fmod m)), [.own 1 (.list [.int (n.fdiv m)]), .no]) := by
  simp only [d_take, mkFn, sCons, sSet, sPar, sUnp, sIf, sRet, sRetN, sDrop, sNil, sBrk, sCnt, bndS, bnd, rt, opt, fVar, fVal, fBin, fUn, rd1, rd2, Rv.rd, Sl.rd, fD, fzM, Rv.fz, fCons, fNil, dCons, dNil, aCons, aNil, aBoxN, aBox, fCall, resolve, boxes, bxpos, wb, fNm, rdAll, fTup, fLst, hAdd, hSub, hInt2, hMulL, hLt, hLe, hGt, hGe, hNeg, hAbs, hLen, hInt1, hMax2, hMin2, hIx, fSl, oNone, oSome, hSl, fB, toB, fAnd, fOr, fNot, fAndV, fOrV, fNotV, fChain, kName, kTup, kCons, kNil, slOk, sStore, fMt, mtGo, hApp, hFdiv, hMod, hDivmod, outs, List.length_cons, List.length_nil, List.getElem?_cons_zero, List.getElem?_cons_succ, List.getElem?_nil, List.set_cons_zero, List.set_cons_succ, List.replicate_succ, List.replicate_zero, List.cons_append, List.nil_append, Option.bind_some, Option.map_some, cond_true, cond_false, ite_true, ite_false, Nat.reduceAdd, Nat.reduceSub, Nat.reduceEqDiff, Nat.reduceLeDiff, if_true, if_false, reduceIte, atI_n0, atI_n1, atI_n2, atI_n3, ixN_10, ixN_20, ixN_21, hEq_int, hNe_int, Bool.not_true, decide_true, decide_false, hTuple, sTryK, sRaise, Bool.false_eq_true, Bool.not_false, sz0, sz1, sz2, sz3, sz4, sz5, sz6, sz7, sz8, h]
/-- a digit below m -/
theorem take_ex (n : Int) {m : Int} (h0 : 0 < m) (h1 : m < 2 ^ 64) : ∃ n' d : Int, 0 ≤ d ∧ d < m ∧ d_take [.own 1 (.list [.int n]), .dat (.int m)] = some (.inr (false, .int d), [.own 1 (.list [.int n']), .no]) :=
  ⟨n.fdiv m, n.fmod m, Int.fmod_nonneg_of_pos n h0, Int.fmod_lt_of_pos n h0, take_eq (divOk_64 (by omega) (by omega))⟩
abbrev Bit20 (ns : List Int) : Prop := ∀ z ∈ ns, Builtin.Int.intBits z ≤ 1048576
theorem cell_ex (ns : List Int) (hb : Bit20 ns) (k : Nat) (hk : k ≤ 1000) : ∃ c : Int, Builtin.Int.intBits c ≤ 1048576 ∧ d_cell [.dat (.dict [(.none, .list (ns.map PyData.int))]), .dat (.int k)] = some (.inr (false, .int c), [.no, .no]) := by
  by_cases h : k < ns.length
  · refine ⟨ns[k], hb _ (List.getElem_mem h), ?_⟩
    have e : decide ((k : Int) < ((ns.map PyData.int).length : Nat)) = true := decide_eq_true (by rw [List.length_map]; omega)
    have e2 : (ns.map PyData.int)[k]? = some (.int ns[k]) := by rw [List.getElem?_map, List.getElem?_eq_getElem h]; rfl
    simp only [d_cell, mkFn, sCons, sSet, sPar, sUnp, sIf, sRet, sRetN, sDrop, sNil, sBrk, sCnt, bndS, bnd, rt, opt, fVar, fVal, fBin, fUn, rd1, rd2, Rv.rd, Sl.rd, fD, fzM, Rv.fz, fCons, fNil, dCons, dNil, aCons, aNil, aBoxN, aBox, fCall, resolve, boxes, bxpos, wb, fNm, rdAll, fTup, fLst, hAdd, hSub, hInt2, hMulL, hLt, hLe, hGt, hGe, hNeg, hAbs, hLen, hInt1, hMax2, hMin2, hIx, fSl, oNone, oSome, hSl, fB, toB, fAnd, fOr, fNot, fAndV, fOrV, fNotV, fChain, kName, kTup, kCons, kNil, slOk, sStore, fMt, mtGo, hApp, hFdiv, hMod, hDivmod, outs, List.length_cons, List.length_nil, List.getElem?_cons_zero, List.getElem?_cons_succ, List.getElem?_nil, List.set_cons_zero, List.set_cons_succ, List.replicate_succ, List.replicate_zero, List.cons_append, List.nil_append, Option.bind_some, Option.map_some, cond_true, cond_false, ite_true, ite_false, Nat.reduceAdd, Nat.reduceSub, Nat.reduceEqDiff, Nat.reduceLeDiff, if_true, if_false, reduceIte, atI_n0, atI_n1, atI_n2, atI_n3, ixN_10, ixN_20, ixN_21, hEq_int, hNe_int, Bool.not_true, decide_true, decide_false, hTuple, sTryK, sRaise, Bool.false_eq_true, Bool.not_false, sz0, sz1, sz2, sz3, sz4, sz5, sz6, sz7, sz8, e, e2, atI_natE]
  · refine ⟨6151 * k + 29, bits64 (by omega) (by decide), ?_⟩
    have e : decide ((k : Int) < ((ns.map PyData.int).length : Nat)) = false := decide_eq_false (by rw [List.length_map]; omega)
    have e2 : mulOk 6151 (k : Int) = true := mulOk_l (by decide)
    simp only [d_cell, mkFn, sCons, sSet, sPar, sUnp, sIf, sRet, sRetN, sDrop, sNil, sBrk, sCnt, bndS, bnd, rt, opt, fVar, fVal, fBin, fUn, rd1, rd2, Rv.rd, Sl.rd, fD, fzM, Rv.fz, fCons, fNil, dCons, dNil, aCons, aNil, aBoxN, aBox, fCall, resolve, boxes, bxpos, wb, fNm, rdAll, fTup, fLst, hAdd, hSub, hInt2, hMulL, hLt, hLe, hGt, hGe, hNeg, hAbs, hLen, hInt1, hMax2, hMin2, hIx, fSl, oNone, oSome, hSl, fB, toB, fAnd, fOr, fNot, fAndV, fOrV, fNotV, fChain, kName, kTup, kCons, kNil, slOk, sStore, fMt, mtGo, hApp, hFdiv, hMod, hDivmod, outs, List.length_cons, List.length_nil, List.getElem?_cons_zero, List.getElem?_cons_succ, List.getElem?_nil, List.set_cons_zero, List.set_cons_succ, List.replicate_succ, List.replicate_zero, List.cons_append, List.nil_append, Option.bind_some, Option.map_some, cond_true, cond_false, ite_true, ite_false, Nat.reduceAdd, Nat.reduceSub, Nat.reduceEqDiff, Nat.reduceLeDiff, if_true, if_false, reduceIte, atI_n0, atI_n1, atI_n2, atI_n3, ixN_10, ixN_20, ixN_21, hEq_int, hNe_int, Bool.not_true, decide_true, decide_false, hTuple, sTryK, sRaise, Bool.false_eq_true, Bool.not_false, sz0, sz1, sz2, sz3, sz4, sz5, sz6, sz7, sz8, e, e2]
theorem mix_ex (c : Int) (hc : Builtin.Int.intBits c ≤ 1048576) (k : Nat) (hk : k ≤ 1000) : ∃ r : Int, r.natAbs < 2 ^ 32 ∧ d_mix [.dat (.int c), .dat (.int k)] = some (.inr (false, .int r), [.no, .no]) := by
  have e1 : mulOk (c + 1) 40692 = true := mulOk_r (by decide)
  have e2 : mulOk 104729 (k : Int) = true := mulOk_l (by decide)
  have b1 : Builtin.Int.intBits (c + 1) ≤ 1048577 := PySem.intBits_add_le (m := 1048576) (n := 1048576) hc (bits64 (by decide) (by decide))
  have b2 : Builtin.Int.intBits ((c + 1) * 40692) ≤ 1048577 + 16 := PySem.intBits_mul_le b1 (bits_le (by decide))
  have b3 : Builtin.Int.intBits (104729 * (k : Int)) ≤ 1048577 + 16 := bits64 (by omega) (by decide)
  have b4 : Builtin.Int.intBits ((c + 1) * 40692 + 104729 * (k : Int)) ≤ 1048594 := Nat.le_trans (PySem.intBits_add_le b2 b3) (by decide)
  have e3 : mulOk ((c + 1) * 40692 + 104729 * (k : Int)) ((c + 1) * 40692 + 104729 * (k : Int)) = true := mulOk_b (by omega)
  have r1 : 0 ≤ (((c + 1) * 40692 + 104729 * (k : Int)) * ((c + 1) * 40692 + 104729 * (k : Int))).fmod 2147483399 := Int.fmod_nonneg_of_pos _ (by decide)
  have r2 : (((c + 1) * 40692 + 104729 * (k : Int)) * ((c + 1) * 40692 + 104729 * (k : Int))).fmod 2147483399 < 2147483399 := Int.fmod_lt_of_pos _ (by decide)
  have e4 : ∀ y : Int, mulOk ((((c + 1) * 40692 + 104729 * (k : Int)) * ((c + 1) * 40692 + 104729 * (k : Int))).fmod 2147483399 + (k : Int)) y = true := fun y => mulOk_l (by omega)
  have m1 : ((2147483399 : Int) != 0) = true := by decide
  have m2 : ((2147483563 : Int) != 0) = true := by decide
  refine ⟨_, ?_, by simp only [d_mix, mkFn, sCons, sSet, sPar, sUnp, sIf, sRet, sRetN, sDrop, sNil, sBrk, sCnt, bndS, bnd, rt, opt, fVar, fVal, fBin, fUn, rd1, rd2, Rv.rd, Sl.rd, fD, fzM, Rv.fz, fCons, fNil, dCons, dNil, aCons, aNil, aBoxN, aBox, fCall, resolve, boxes, bxpos, wb, fNm, rdAll, fTup, fLst, hAdd, hSub, hInt2, hMulL, hLt, hLe, hGt, hGe, hNeg, hAbs, hLen, hInt1, hMax2, hMin2, hIx, fSl, oNone, oSome, hSl, fB, toB, fAnd, fOr, fNot, fAndV, fOrV, fNotV, fChain, kName, kTup, kCons, kNil, slOk, sStore, fMt, mtGo, hApp, hFdiv, hMod, hDivmod, outs, List.length_cons, List.length_nil, List.getElem?_cons_zero, List.getElem?_cons_succ, List.getElem?_nil, List.set_cons_zero, List.set_cons_succ, List.replicate_succ, List.replicate_zero, List.cons_append, List.nil_append, Option.bind_some, Option.map_some, cond_true, cond_false, ite_true, ite_false, Nat.reduceAdd, Nat.reduceSub, Nat.reduceEqDiff, Nat.reduceLeDiff, if_true, if_false, reduceIte, atI_n0, atI_n1, atI_n2, atI_n3, ixN_10, ixN_20, ixN_21, hEq_int, hNe_int, Bool.not_true, decide_true, decide_false, hTuple, sTryK, sRaise, Bool.false_eq_true, Bool.not_false, sz0, sz1, sz2, sz3, sz4, sz5, sz6, sz7, sz8, e1, e2, e3, e4, m1, m2]; rfl⟩
  have x1 := Int.fmod_nonneg_of_pos (((((c + 1) * 40692 + 104729 * (k : Int)) * ((c + 1) * 40692 + 104729 * (k : Int))).fmod 2147483399 + (k : Int)) * ((((c + 1) * 40692 + 104729 * (k : Int)) * ((c + 1) * 40692 + 104729 * (k : Int))).fmod 2147483399 + (k : Int) + 31)) (show (0 : Int) < 2147483563 by decide)
  have x2 := Int.fmod_lt_of_pos (((((c + 1) * 40692 + 104729 * (k : Int)) * ((c + 1) * 40692 + 104729 * (k : Int))).fmod 2147483399 + (k : Int)) * ((((c + 1) * 40692 + 104729 * (k : Int)) * ((c + 1) * 40692 + 104729 * (k : Int))).fmod 2147483399 + (k : Int) + 31)) (show (0 : Int) < 2147483563 by decide)
  omega
theorem rng_nat (n : Nat) : rng 0 n = (List.range n).map fun i => PyData.int (i : Nat) := by
  unfold rng
  refine List.map_congr_left fun i _ => ?_
  rw [Int.zero_add]
theorem box_turn (sc : D) (k c : Int) (hc : Builtin.Int.intBits c ≤ 1048576) (B : SM) (hB : B = sSet 3 (fBin hAdd (fBin hMulL (fVar 3) (fVal (.int 2147483647))) (fCall d_mix (aCons (fVar 2) (aCons (fVar 4) aNil))))) :
    ∀ (l : List Nat) (x : Int) (s4 : Sl), (∀ i ∈ l, i ≤ 1000) → ∃ (y : Int) (s4' : Sl), forL (kName 4) B (l.map fun i => PyData.int (i : Nat)) [.dat sc, .dat (.int k), .dat (.int c), .dat (.int x), s4] = some (.nx, [.dat sc, .dat (.int k), .dat (.int c), .dat (.int y), s4'])
  | [], x, s4, _ => ⟨x, s4, rfl⟩
  | i :: l, x, s4, h => by
    obtain ⟨r, hr, er⟩ := mix_ex c hc i (h i List.mem_cons_self)
    have e1 : mulOk x 2147483647 = true := mulOk_r (by decide)
    obtain ⟨y, s4', ih⟩ := box_turn sc k c hc B hB l (x * 2147483647 + r) (.dat (.int i)) fun j hj => h j (List.mem_cons_of_mem _ hj)
    refine ⟨y, s4', ?_⟩
    rw [List.map_cons, forL_nx (fs1 := [.dat sc, .dat (.int k), .dat (.int c), .dat (.int x), .dat (.int i)]) (fs2 := [.dat sc, .dat (.int k), .dat (.int c), .dat (.int (x * 2147483647 + r)), .dat (.int i)]) rfl (by rw [hB]; simp only [mkFn, sCons, sSet, sPar, sUnp, sIf, sRet, sRetN, sDrop, sNil, sBrk, sCnt, bndS, bnd, rt, opt, fVar, fVal, fBin, fUn, rd1, rd2, Rv.rd, Sl.rd, fD, fzM, Rv.fz, fCons, fNil, dCons, dNil, aCons, aNil, aBoxN, aBox, fCall, resolve, boxes, bxpos, wb, fNm, rdAll, fTup, fLst, hAdd, hSub, hInt2, hMulL, hLt, hLe, hGt, hGe, hNeg, hAbs, hLen, hInt1, hMax2, hMin2, hIx, fSl, oNone, oSome, hSl, fB, toB, fAnd, fOr, fNot, fAndV, fOrV, fNotV, fChain, kName, kTup, kCons, kNil, slOk, sStore, fMt, mtGo, hApp, hFdiv, hMod, hDivmod, outs, List.length_cons, List.length_nil, List.getElem?_cons_zero, List.getElem?_cons_succ, List.getElem?_nil, List.set_cons_zero, List.set_cons_succ, List.replicate_succ, List.replicate_zero, List.cons_append, List.nil_append, Option.bind_some, Option.map_some, cond_true, cond_false, ite_true, ite_false, Nat.reduceAdd, Nat.reduceSub, Nat.reduceEqDiff, Nat.reduceLeDiff, if_true, if_false, reduceIte, atI_n0, atI_n1, atI_n2, atI_n3, ixN_10, ixN_20, ixN_21, hEq_int, hNe_int, Bool.not_true, decide_true, decide_false, hTuple, sTryK, sRaise, Bool.false_eq_true, Bool.not_false, sz0, sz1, sz2, sz3, sz4, sz5, sz6, sz7, sz8, e1, er])]
    exact ih
theorem box_ex (ns : List Int) (hb : Bit20 ns) (k : Nat) (hk : k ≤ 900) : ∃ n : Int, d_box [.dat (.dict [(.none, .list (ns.map PyData.int))]), .dat (.int k)] = some (.inr (true, .list [.int n]), [.no, .no]) := by
  obtain ⟨c, hc, ec⟩ := cell_ex ns hb k (by omega)
  have m1 : ((2 : Int) != 0) = true := by decide
  have m2 : divOk c 2 = true := divOk_64 (by decide) (by decide)
  cases e : decide (c.fmod 2 = 0) with
  | true => exact ⟨_, by simp only [d_box, mkFn, sCons, sSet, sPar, sUnp, sIf, sRet, sRetN, sDrop, sNil, sBrk, sCnt, bndS, bnd, rt, opt, fVar, fVal, fBin, fUn, rd1, rd2, Rv.rd, Sl.rd, fD, fzM, Rv.fz, fCons, fNil, dCons, dNil, aCons, aNil, aBoxN, aBox, fCall, resolve, boxes, bxpos, wb, fNm, rdAll, fTup, fLst, hAdd, hSub, hInt2, hMulL, hLt, hLe, hGt, hGe, hNeg, hAbs, hLen, hInt1, hMax2, hMin2, hIx, fSl, oNone, oSome, hSl, fB, toB, fAnd, fOr, fNot, fAndV, fOrV, fNotV, fChain, kName, kTup, kCons, kNil, slOk, sStore, fMt, mtGo, hApp, hFdiv, hMod, hDivmod, outs, List.length_cons, List.length_nil, List.getElem?_cons_zero, List.getElem?_cons_succ, List.getElem?_nil, List.set_cons_zero, List.set_cons_succ, List.replicate_succ, List.replicate_zero, List.cons_append, List.nil_append, Option.bind_some, Option.map_some, cond_true, cond_false, ite_true, ite_false, Nat.reduceAdd, Nat.reduceSub, Nat.reduceEqDiff, Nat.reduceLeDiff, if_true, if_false, reduceIte, atI_n0, atI_n1, atI_n2, atI_n3, ixN_10, ixN_20, ixN_21, hEq_int, hNe_int, Bool.not_true, decide_true, decide_false, hTuple, sTryK, sRaise, Bool.false_eq_true, Bool.not_false, sz0, sz1, sz2, sz3, sz4, sz5, sz6, sz7, sz8, ec, m1, m2, e]; rfl⟩
  | false =>
    obtain ⟨y, s4, ih⟩ := box_turn (.dict [(.none, .list (ns.map PyData.int))]) k c hc _ rfl (List.range 24) 0 .no fun i hi => by have := List.mem_range.mp hi; omega
    have er : fiR1 (dCons (fVal (.int 24)) dNil) [.dat (.dict [(.none, .list (ns.map PyData.int))]), .dat (.int k), .dat (.int c), .dat (.int 0), .no] = some (.inr ((List.range 24).map fun i => PyData.int (i : Nat)), [.dat (.dict [(.none, .list (ns.map PyData.int))]), .dat (.int k), .dat (.int c), .dat (.int 0), .no]) := by
      rw [← rng_nat]
      rfl
    refine ⟨y, ?_⟩
    unfold d_box
    refine mkFn_ret (fs := [.dat (.dict [(.none, .list (ns.map PyData.int))]), .dat (.int k), .dat (.int c), .dat (.int y), s4]) rfl ?_
    rw [sCons_nx (fs1 := [.dat (.dict [(.none, .list (ns.map PyData.int))]), .dat (.int k), .dat (.int c), .no, .no]) (by simp only [mkFn, sCons, sSet, sPar, sUnp, sIf, sRet, sRetN, sDrop, sNil, sBrk, sCnt, bndS, bnd, rt, opt, fVar, fVal, fBin, fUn, rd1, rd2, Rv.rd, Sl.rd, fD, fzM, Rv.fz, fCons, fNil, dCons, dNil, aCons, aNil, aBoxN, aBox, fCall, resolve, boxes, bxpos, wb, fNm, rdAll, fTup, fLst, hAdd, hSub, hInt2, hMulL, hLt, hLe, hGt, hGe, hNeg, hAbs, hLen, hInt1, hMax2, hMin2, hIx, fSl, oNone, oSome, hSl, fB, toB, fAnd, fOr, fNot, fAndV, fOrV, fNotV, fChain, kName, kTup, kCons, kNil, slOk, sStore, fMt, mtGo, hApp, hFdiv, hMod, hDivmod, outs, List.length_cons, List.length_nil, List.getElem?_cons_zero, List.getElem?_cons_succ, List.getElem?_nil, List.set_cons_zero, List.set_cons_succ, List.replicate_succ, List.replicate_zero, List.cons_append, List.nil_append, Option.bind_some, Option.map_some, cond_true, cond_false, ite_true, ite_false, Nat.reduceAdd, Nat.reduceSub, Nat.reduceEqDiff, Nat.reduceLeDiff, if_true, if_false, reduceIte, atI_n0, atI_n1, atI_n2, atI_n3, ixN_10, ixN_20, ixN_21, hEq_int, hNe_int, Bool.not_true, decide_true, decide_false, hTuple, sTryK, sRaise, Bool.false_eq_true, Bool.not_false, sz0, sz1, sz2, sz3, sz4, sz5, sz6, sz7, sz8, ec])]
    rw [sCons_nx (fs1 := [.dat (.dict [(.none, .list (ns.map PyData.int))]), .dat (.int k), .dat (.int c), .no, .no]) (by simp only [mkFn, sCons, sSet, sPar, sUnp, sIf, sRet, sRetN, sDrop, sNil, sBrk, sCnt, bndS, bnd, rt, opt, fVar, fVal, fBin, fUn, rd1, rd2, Rv.rd, Sl.rd, fD, fzM, Rv.fz, fCons, fNil, dCons, dNil, aCons, aNil, aBoxN, aBox, fCall, resolve, boxes, bxpos, wb, fNm, rdAll, fTup, fLst, hAdd, hSub, hInt2, hMulL, hLt, hLe, hGt, hGe, hNeg, hAbs, hLen, hInt1, hMax2, hMin2, hIx, fSl, oNone, oSome, hSl, fB, toB, fAnd, fOr, fNot, fAndV, fOrV, fNotV, fChain, kName, kTup, kCons, kNil, slOk, sStore, fMt, mtGo, hApp, hFdiv, hMod, hDivmod, outs, List.length_cons, List.length_nil, List.getElem?_cons_zero, List.getElem?_cons_succ, List.getElem?_nil, List.set_cons_zero, List.set_cons_succ, List.replicate_succ, List.replicate_zero, List.cons_append, List.nil_append, Option.bind_some, Option.map_some, cond_true, cond_false, ite_true, ite_false, Nat.reduceAdd, Nat.reduceSub, Nat.reduceEqDiff, Nat.reduceLeDiff, if_true, if_false, reduceIte, atI_n0, atI_n1, atI_n2, atI_n3, ixN_10, ixN_20, ixN_21, hEq_int, hNe_int, Bool.not_true, decide_true, decide_false, hTuple, sTryK, sRaise, Bool.false_eq_true, Bool.not_false, sz0, sz1, sz2, sz3, sz4, sz5, sz6, sz7, sz8, m1, m2, e])]
    rw [sCons_nx (fs1 := [.dat (.dict [(.none, .list (ns.map PyData.int))]), .dat (.int k), .dat (.int c), .dat (.int 0), .no]) (by simp only [mkFn, sCons, sSet, sPar, sUnp, sIf, sRet, sRetN, sDrop, sNil, sBrk, sCnt, bndS, bnd, rt, opt, fVar, fVal, fBin, fUn, rd1, rd2, Rv.rd, Sl.rd, fD, fzM, Rv.fz, fCons, fNil, dCons, dNil, aCons, aNil, aBoxN, aBox, fCall, resolve, boxes, bxpos, wb, fNm, rdAll, fTup, fLst, hAdd, hSub, hInt2, hMulL, hLt, hLe, hGt, hGe, hNeg, hAbs, hLen, hInt1, hMax2, hMin2, hIx, fSl, oNone, oSome, hSl, fB, toB, fAnd, fOr, fNot, fAndV, fOrV, fNotV, fChain, kName, kTup, kCons, kNil, slOk, sStore, fMt, mtGo, hApp, hFdiv, hMod, hDivmod, outs, List.length_cons, List.length_nil, List.getElem?_cons_zero, List.getElem?_cons_succ, List.getElem?_nil, List.set_cons_zero, List.set_cons_succ, List.replicate_succ, List.replicate_zero, List.cons_append, List.nil_append, Option.bind_some, Option.map_some, cond_true, cond_false, ite_true, ite_false, Nat.reduceAdd, Nat.reduceSub, Nat.reduceEqDiff, Nat.reduceLeDiff, if_true, if_false, reduceIte, atI_n0, atI_n1, atI_n2, atI_n3, ixN_10, ixN_20, ixN_21, hEq_int, hNe_int, Bool.not_true, decide_true, decide_false, hTuple, sTryK, sRaise, Bool.false_eq_true, Bool.not_false, sz0, sz1, sz2, sz3, sz4, sz5, sz6, sz7, sz8])]
    rw [sCons_nx (fs1 := [.dat (.dict [(.none, .list (ns.map PyData.int))]), .dat (.int k), .dat (.int c), .dat (.int y), s4]) (by rw [sFor_of er]; exact ih)]
    simp only [mkFn, sCons, sSet, sPar, sUnp, sIf, sRet, sRetN, sDrop, sNil, sBrk, sCnt, bndS, bnd, rt, opt, fVar, fVal, fBin, fUn, rd1, rd2, Rv.rd, Sl.rd, fD, fzM, Rv.fz, fCons, fNil, dCons, dNil, aCons, aNil, aBoxN, aBox, fCall, resolve, boxes, bxpos, wb, fNm, rdAll, fTup, fLst, hAdd, hSub, hInt2, hMulL, hLt, hLe, hGt, hGe, hNeg, hAbs, hLen, hInt1, hMax2, hMin2, hIx, fSl, oNone, oSome, hSl, fB, toB, fAnd, fOr, fNot, fAndV, fOrV, fNotV, fChain, kName, kTup, kCons, kNil, slOk, sStore, fMt, mtGo, hApp, hFdiv, hMod, hDivmod, outs, List.length_cons, List.length_nil, List.getElem?_cons_zero, List.getElem?_cons_succ, List.getElem?_nil, List.set_cons_zero, List.set_cons_succ, List.replicate_succ, List.replicate_zero, List.cons_append, List.nil_append, Option.bind_some, Option.map_some, cond_true, cond_false, ite_true, ite_false, Nat.reduceAdd, Nat.reduceSub, Nat.reduceEqDiff, Nat.reduceLeDiff, if_true, if_false, reduceIte, atI_n0, atI_n1, atI_n2, atI_n3, ixN_10, ixN_20, ixN_21, hEq_int, hNe_int, Bool.not_true, decide_true, decide_false, hTuple, sTryK, sRaise, Bool.false_eq_true, Bool.not_false, sz0, sz1, sz2, sz3, sz4, sz5, sz6, sz7, sz8]
/-! ### numbers in lowest terms -/
def g3 (a b c : Int) : Nat := Nat.gcd (Nat.gcd a.natAbs b.natAbs) c.natAbs
abbrev tup3 (a b c : Int) : D := .tuple [.int a, .int b, .int c]
def lowD (a b c : Int) : D := tup3 (a.fdiv (g3 a b c)) (b.fdiv (g3 a b c)) (c.fdiv (g3 a b c))
theorem abs_nat (i : Int) : (if i < 0 then -i else i) = ((i.natAbs : Nat) : Int) := by split <;> omega
theorem fmod_nat (m o : Nat) : (m : Int).fmod (o : Int) = ((m % o : Nat) : Int) := by
  rw [Int.fmod_eq_emod_of_nonneg _ (Int.natCast_nonneg o)]
  rfl
theorem gcd_loop (A B C : Sl) : ∀ (o m : Nat), sWhile (fB (fBin hGt (fVar 4) (fVal (.int 0)))) (sPar 3 4 (dCons (fVar 4) (dCons (fBin hMod (fVar 3) (fVar 4)) dNil))) [A, B, C, .dat (.int (m : Nat)), .dat (.int (o : Nat))] = some (.nx, [A, B, C, .dat (.int (Nat.gcd m o : Nat)), .dat (.int 0)]) := by
  intro o
  induction o using Nat.strongRecOn with
  | ind o ih =>
    intro m
    by_cases h : o = 0
    · subst h
      rw [Nat.gcd_zero_right]
      exact sWhile_stop rfl
    · have hp : 0 < o := Nat.pos_of_ne_zero h
      have e1 : decide ((0 : Int) < (o : Nat)) = true := decide_eq_true (by omega)
      have e2 : (((o : Nat) : Int) != 0) = true := by simpa using h
      have := ih (m % o) (Nat.mod_lt m hp) o
      rw [Nat.gcd_comm m o, Nat.gcd_rec o m, Nat.gcd_comm] 
      rw [sWhile_turn (fs1 := [A, B, C, .dat (.int (m : Nat)), .dat (.int (o : Nat))]) (fs2 := [A, B, C, .dat (.int (o : Nat)), .dat (.int (m % o : Nat))]) (by simp only [mkFn, sCons, sSet, sPar, sUnp, sIf, sRet, sRetN, sDrop, sNil, sBrk, sCnt, bndS, bnd, rt, opt, fVar, fVal, fBin, fUn, rd1, rd2, Rv.rd, Sl.rd, fD, fzM, Rv.fz, fCons, fNil, dCons, dNil, aCons, aNil, aBoxN, aBox, fCall, resolve, boxes, bxpos, wb, fNm, rdAll, fTup, fLst, hAdd, hSub, hInt2, hMulL, hLt, hLe, hGt, hGe, hNeg, hAbs, hLen, hInt1, hMax2, hMin2, hIx, fSl, oNone, oSome, hSl, fB, toB, fAnd, fOr, fNot, fAndV, fOrV, fNotV, fChain, kName, kTup, kCons, kNil, slOk, sStore, fMt, mtGo, hApp, hFdiv, hMod, hDivmod, outs, List.length_cons, List.length_nil, List.getElem?_cons_zero, List.getElem?_cons_succ, List.getElem?_nil, List.set_cons_zero, List.set_cons_succ, List.replicate_succ, List.replicate_zero, List.cons_append, List.nil_append, Option.bind_some, Option.map_some, cond_true, cond_false, ite_true, ite_false, Nat.reduceAdd, Nat.reduceSub, Nat.reduceEqDiff, Nat.reduceLeDiff, if_true, if_false, reduceIte, atI_n0, atI_n1, atI_n2, atI_n3, ixN_10, ixN_20, ixN_21, hEq_int, hNe_int, Bool.not_true, decide_true, decide_false, hTuple, sTryK, sRaise, Bool.false_eq_true, Bool.not_false, sz0, sz1, sz2, sz3, sz4, sz5, sz6, sz7, sz8, e1]) (by simp only [mkFn, sCons, sSet, sPar, sUnp, sIf, sRet, sRetN, sDrop, sNil, sBrk, sCnt, bndS, bnd, rt, opt, fVar, fVal, fBin, fUn, rd1, rd2, Rv.rd, Sl.rd, fD, fzM, Rv.fz, fCons, fNil, dCons, dNil, aCons, aNil, aBoxN, aBox, fCall, resolve, boxes, bxpos, wb, fNm, rdAll, fTup, fLst, hAdd, hSub, hInt2, hMulL, hLt, hLe, hGt, hGe, hNeg, hAbs, hLen, hInt1, hMax2, hMin2, hIx, fSl, oNone, oSome, hSl, fB, toB, fAnd, fOr, fNot, fAndV, fOrV, fNotV, fChain, kName, kTup, kCons, kNil, slOk, sStore, fMt, mtGo, hApp, hFdiv, hMod, hDivmod, outs, List.length_cons, List.length_nil, List.getElem?_cons_zero, List.getElem?_cons_succ, List.getElem?_nil, List.set_cons_zero, List.set_cons_succ, List.replicate_succ, List.replicate_zero, List.cons_append, List.nil_append, Option.bind_some, Option.map_some, cond_true, cond_false, ite_true, ite_false, Nat.reduceAdd, Nat.reduceSub, Nat.reduceEqDiff, Nat.reduceLeDiff, if_true, if_false, reduceIte, atI_n0, atI_n1, atI_n2, atI_n3, ixN_10, ixN_20, ixN_21, hEq_int, hNe_int, Bool.not_true, decide_true, decide_false, hTuple, sTryK, sRaise, Bool.false_eq_true, Bool.not_false, sz0, sz1, sz2, sz3, sz4, sz5, sz6, sz7, sz8, e2, fmod_nat])]
      exact this
theorem g3_pos {a b c : Int} (hc : 0 < c) : 0 < g3 a b c := Nat.gcd_pos_of_pos_right _ (by omega)
theorem g3_le {a b c : Int} (hc : 0 < c) : g3 a b c ≤ c.natAbs := Nat.gcd_le_right _ (by omega)
theorem g3_bits {a b c : Int} {k : Nat} (hc : 0 < c) (h : Builtin.Int.intBits c ≤ k) : Builtin.Int.intBits (g3 a b c : Nat) ≤ k := PySem.intBits_le_of_natAbs (by have := g3_le (a := a) (b := b) hc; omega) h
theorem fit_eq {a b c : Int} (hc : 0 < c) (hb : Builtin.Int.intBits c ≤ 9000) : d_fit [.dat (.int a), .dat (.int b), .dat (.int c)] = some (.inr (false, lowD a b c), [.no, .no, .no]) := by
  have g0 : ((g3 a b c : Nat) : Int) ≠ 0 := by have := g3_pos (a := a) (b := b) hc; omega
  have e1 : ∀ x : Int, divOk x (g3 a b c : Nat) = true := fun x => divOk_of g0 (g3_bits hc hb)
  unfold d_fit
  refine mkFn_ret (fs := [.dat (.int a), .dat (.int b), .dat (.int c), .dat (.int (g3 a b c : Nat)), .dat (.int 0)]) rfl ?_
  rw [sCons_nx (fs1 := [.dat (.int a), .dat (.int b), .dat (.int c), .dat (.int (a.natAbs : Nat)), .dat (.int (b.natAbs : Nat))]) (by simp only [mkFn, sCons, sSet, sPar, sUnp, sIf, sRet, sRetN, sDrop, sNil, sBrk, sCnt, bndS, bnd, rt, opt, fVar, fVal, fBin, fUn, rd1, rd2, Rv.rd, Sl.rd, fD, fzM, Rv.fz, fCons, fNil, dCons, dNil, aCons, aNil, aBoxN, aBox, fCall, resolve, boxes, bxpos, wb, fNm, rdAll, fTup, fLst, hAdd, hSub, hInt2, hMulL, hLt, hLe, hGt, hGe, hNeg, hAbs, hLen, hInt1, hMax2, hMin2, hIx, fSl, oNone, oSome, hSl, fB, toB, fAnd, fOr, fNot, fAndV, fOrV, fNotV, fChain, kName, kTup, kCons, kNil, slOk, sStore, fMt, mtGo, hApp, hFdiv, hMod, hDivmod, outs, List.length_cons, List.length_nil, List.getElem?_cons_zero, List.getElem?_cons_succ, List.getElem?_nil, List.set_cons_zero, List.set_cons_succ, List.replicate_succ, List.replicate_zero, List.cons_append, List.nil_append, Option.bind_some, Option.map_some, cond_true, cond_false, ite_true, ite_false, Nat.reduceAdd, Nat.reduceSub, Nat.reduceEqDiff, Nat.reduceLeDiff, if_true, if_false, reduceIte, atI_n0, atI_n1, atI_n2, atI_n3, ixN_10, ixN_20, ixN_21, hEq_int, hNe_int, Bool.not_true, decide_true, decide_false, hTuple, sTryK, sRaise, Bool.false_eq_true, Bool.not_false, sz0, sz1, sz2, sz3, sz4, sz5, sz6, sz7, sz8, abs_nat])]
  rw [sCons_nx (fs1 := [.dat (.int a), .dat (.int b), .dat (.int c), .dat (.int (Nat.gcd a.natAbs b.natAbs : Nat)), .dat (.int 0)]) (gcd_loop _ _ _ _ _)]
  rw [sCons_nx (fs1 := [.dat (.int a), .dat (.int b), .dat (.int c), .dat (.int (Nat.gcd a.natAbs b.natAbs : Nat)), .dat (.int (c.natAbs : Nat))]) (by
    have : ((c.natAbs : Nat) : Int) = c := by omega
    rw [this]; simp only [mkFn, sCons, sSet, sPar, sUnp, sIf, sRet, sRetN, sDrop, sNil, sBrk, sCnt, bndS, bnd, rt, opt, fVar, fVal, fBin, fUn, rd1, rd2, Rv.rd, Sl.rd, fD, fzM, Rv.fz, fCons, fNil, dCons, dNil, aCons, aNil, aBoxN, aBox, fCall, resolve, boxes, bxpos, wb, fNm, rdAll, fTup, fLst, hAdd, hSub, hInt2, hMulL, hLt, hLe, hGt, hGe, hNeg, hAbs, hLen, hInt1, hMax2, hMin2, hIx, fSl, oNone, oSome, hSl, fB, toB, fAnd, fOr, fNot, fAndV, fOrV, fNotV, fChain, kName, kTup, kCons, kNil, slOk, sStore, fMt, mtGo, hApp, hFdiv, hMod, hDivmod, outs, List.length_cons, List.length_nil, List.getElem?_cons_zero, List.getElem?_cons_succ, List.getElem?_nil, List.set_cons_zero, List.set_cons_succ, List.replicate_succ, List.replicate_zero, List.cons_append, List.nil_append, Option.bind_some, Option.map_some, cond_true, cond_false, ite_true, ite_false, Nat.reduceAdd, Nat.reduceSub, Nat.reduceEqDiff, Nat.reduceLeDiff, if_true, if_false, reduceIte, atI_n0, atI_n1, atI_n2, atI_n3, ixN_10, ixN_20, ixN_21, hEq_int, hNe_int, Bool.not_true, decide_true, decide_false, hTuple, sTryK, sRaise, Bool.false_eq_true, Bool.not_false, sz0, sz1, sz2, sz3, sz4, sz5, sz6, sz7, sz8])]
  rw [sCons_nx (fs1 := [.dat (.int a), .dat (.int b), .dat (.int c), .dat (.int (g3 a b c : Nat)), .dat (.int 0)]) (gcd_loop _ _ _ _ _)]
  simp only [mkFn, sCons, sSet, sPar, sUnp, sIf, sRet, sRetN, sDrop, sNil, sBrk, sCnt, bndS, bnd, rt, opt, fVar, fVal, fBin, fUn, rd1, rd2, Rv.rd, Sl.rd, fD, fzM, Rv.fz, fCons, fNil, dCons, dNil, aCons, aNil, aBoxN, aBox, fCall, resolve, boxes, bxpos, wb, fNm, rdAll, fTup, fLst, hAdd, hSub, hInt2, hMulL, hLt, hLe, hGt, hGe, hNeg, hAbs, hLen, hInt1, hMax2, hMin2, hIx, fSl, oNone, oSome, hSl, fB, toB, fAnd, fOr, fNot, fAndV, fOrV, fNotV, fChain, kName, kTup, kCons, kNil, slOk, sStore, fMt, mtGo, hApp, hFdiv, hMod, hDivmod, outs, List.length_cons, List.length_nil, List.getElem?_cons_zero, List.getElem?_cons_succ, List.getElem?_nil, List.set_cons_zero, List.set_cons_succ, List.replicate_succ, List.replicate_zero, List.cons_append, List.nil_append, Option.bind_some, Option.map_some, cond_true, cond_false, ite_true, ite_false, Nat.reduceAdd, Nat.reduceSub, Nat.reduceEqDiff, Nat.reduceLeDiff, if_true, if_false, reduceIte, atI_n0, atI_n1, atI_n2, atI_n3, ixN_10, ixN_20, ixN_21, hEq_int, hNe_int, Bool.not_true, decide_true, decide_false, hTuple, sTryK, sRaise, Bool.false_eq_true, Bool.not_false, sz0, sz1, sz2, sz3, sz4, sz5, sz6, sz7, sz8, e1, lowD]
abbrev Bt (k : Nat) (x : Int) : Prop := Builtin.Int.intBits x ≤ k
theorem Bt.mul {x y : Int} {m n : Nat} (h : Bt m x) (h2 : Bt n y) : Bt (m + n) (x * y) := PySem.intBits_mul_le h h2
theorem Bt.add {x y : Int} {m n : Nat} (h : Bt m x) (h2 : Bt n y) : Bt (max m n + 1) (x + y) := PySem.intBits_add_le h h2
theorem Bt.sub {x y : Int} {m n : Nat} (h : Bt m x) (h2 : Bt n y) : Bt (max m n + 1) (x - y) := PySem.intBits_sub_le h h2
theorem Bt.mono {x : Int} {m n : Nat} (h : Bt m x) (h2 : m ≤ n) : Bt n x := Nat.le_trans h h2
theorem Bt.ok {x y : Int} {m n : Nat} (h : Bt m x) (h2 : Bt n y) (hk : m + n ≤ 2 ^ 26) : mulOk x y = true := mulOk_b (Nat.le_trans (Nat.add_le_add h h2) hk)
theorem plus_eq {a b c d e f : Int} (hc : 0 < c) (hf : 0 < f) (ba : Bt 4000 a) (bb : Bt 4000 b) (bc : Bt 4000 c) (bd : Bt 4000 d) (be : Bt 4000 e) (bf : Bt 4000 f) :
    d_plus [.dat (tup3 a b c), .dat (tup3 d e f)] = some (.inr (false, lowD (a * f + d * c) (b * f + e * c) (c * f)), [.no, .no]) := by
  have e0 := fit_eq (a := a * f + d * c) (b := b * f + e * c) (c := c * f) (Int.mul_pos hc hf) ((bc.mul bf).mono (by decide))
  simp only [d_plus, mkFn, sCons, sSet, sPar, sUnp, sIf, sRet, sRetN, sDrop, sNil, sBrk, sCnt, bndS, bnd, rt, opt, fVar, fVal, fBin, fUn, rd1, rd2, Rv.rd, Sl.rd, fD, fzM, Rv.fz, fCons, fNil, dCons, dNil, aCons, aNil, aBoxN, aBox, fCall, resolve, boxes, bxpos, wb, fNm, rdAll, fTup, fLst, hAdd, hSub, hInt2, hMulL, hLt, hLe, hGt, hGe, hNeg, hAbs, hLen, hInt1, hMax2, hMin2, hIx, fSl, oNone, oSome, hSl, fB, toB, fAnd, fOr, fNot, fAndV, fOrV, fNotV, fChain, kName, kTup, kCons, kNil, slOk, sStore, fMt, mtGo, hApp, hFdiv, hMod, hDivmod, outs, List.length_cons, List.length_nil, List.getElem?_cons_zero, List.getElem?_cons_succ, List.getElem?_nil, List.set_cons_zero, List.set_cons_succ, List.replicate_succ, List.replicate_zero, List.cons_append, List.nil_append, Option.bind_some, Option.map_some, cond_true, cond_false, ite_true, ite_false, Nat.reduceAdd, Nat.reduceSub, Nat.reduceEqDiff, Nat.reduceLeDiff, if_true, if_false, reduceIte, atI_n0, atI_n1, atI_n2, atI_n3, ixN_10, ixN_20, ixN_21, hEq_int, hNe_int, Bool.not_true, decide_true, decide_false, hTuple, sTryK, sRaise, Bool.false_eq_true, Bool.not_false, sz0, sz1, sz2, sz3, sz4, sz5, sz6, sz7, sz8, ba.ok bf (by decide), bd.ok bc (by decide), bb.ok bf (by decide), be.ok bc (by decide), bc.ok bf (by decide), e0]
theorem minus_eq {a b c d e f : Int} (hc : 0 < c) (hf : 0 < f) (ba : Bt 4000 a) (bb : Bt 4000 b) (bc : Bt 4000 c) (bd : Bt 3998 d) (be : Bt 3998 e) (bf : Bt 4000 f) :
    d_minus [.dat (tup3 a b c), .dat (tup3 d e f)] = some (.inr (false, lowD (a * f + (0 - d) * c) (b * f + (0 - e) * c) (c * f)), [.no, .no]) := by
  have z : Bt 0 0 := by decide
  have e0 := plus_eq (a := a) (b := b) (c := c) (d := 0 - d) (e := 0 - e) (f := f) hc hf ba bb bc ((z.sub bd).mono (by decide)) ((z.sub be).mono (by decide)) bf
  simp only [d_minus, mkFn, sCons, sSet, sPar, sUnp, sIf, sRet, sRetN, sDrop, sNil, sBrk, sCnt, bndS, bnd, rt, opt, fVar, fVal, fBin, fUn, rd1, rd2, Rv.rd, Sl.rd, fD, fzM, Rv.fz, fCons, fNil, dCons, dNil, aCons, aNil, aBoxN, aBox, fCall, resolve, boxes, bxpos, wb, fNm, rdAll, fTup, fLst, hAdd, hSub, hInt2, hMulL, hLt, hLe, hGt, hGe, hNeg, hAbs, hLen, hInt1, hMax2, hMin2, hIx, fSl, oNone, oSome, hSl, fB, toB, fAnd, fOr, fNot, fAndV, fOrV, fNotV, fChain, kName, kTup, kCons, kNil, slOk, sStore, fMt, mtGo, hApp, hFdiv, hMod, hDivmod, outs, List.length_cons, List.length_nil, List.getElem?_cons_zero, List.getElem?_cons_succ, List.getElem?_nil, List.set_cons_zero, List.set_cons_succ, List.replicate_succ, List.replicate_zero, List.cons_append, List.nil_append, Option.bind_some, Option.map_some, cond_true, cond_false, ite_true, ite_false, Nat.reduceAdd, Nat.reduceSub, Nat.reduceEqDiff, Nat.reduceLeDiff, if_true, if_false, reduceIte, atI_n0, atI_n1, atI_n2, atI_n3, ixN_10, ixN_20, ixN_21, hEq_int, hNe_int, Bool.not_true, decide_true, decide_false, hTuple, sTryK, sRaise, Bool.false_eq_true, Bool.not_false, sz0, sz1, sz2, sz3, sz4, sz5, sz6, sz7, sz8, e0]
/-- below nought: a + b * the root of r -/
def negV (r a b : Int) : Bool := if 0 ≤ a ∧ 0 ≤ b then false else if a ≤ 0 ∧ b ≤ 0 then true else if a < 0 then decide (b * b * r < a * a) else decide (a * a < b * b * r)
theorem less_eq {r a b c d e f : Int} (hc : 0 < c) (hf : 0 < f) (ba : Bt 900 a) (bb : Bt 900 b) (bc : Bt 900 c) (bd : Bt 900 d) (be : Bt 900 e) (bf : Bt 900 f) (br : Bt 60 r) :
    d_less [.dat (.int r), .dat (tup3 a b c), .dat (tup3 d e f)] = some (.inr (false, .bool (negV r ((a * f + (0 - d) * c).fdiv (g3 (a * f + (0 - d) * c) (b * f + (0 - e) * c) (c * f))) ((b * f + (0 - e) * c).fdiv (g3 (a * f + (0 - d) * c) (b * f + (0 - e) * c) (c * f))))), [.no, .no, .no]) := by
  have z : Bt 0 0 := by decide
  have e0 := minus_eq (a := a) (b := b) (c := c) (d := d) (e := e) (f := f) hc hf (ba.mono (by decide)) (bb.mono (by decide)) (bc.mono (by decide)) (bd.mono (by decide)) (be.mono (by decide)) (bf.mono (by decide))
  have b1 : Bt 1900 ((a * f + (0 - d) * c).fdiv (g3 (a * f + (0 - d) * c) (b * f + (0 - e) * c) (c * f))) := PySem.intBits_fdiv_le (((ba.mul bf).add ((z.sub bd).mul bc)).mono (by decide))
  have b2 : Bt 1900 ((b * f + (0 - e) * c).fdiv (g3 (a * f + (0 - d) * c) (b * f + (0 - e) * c) (c * f))) := PySem.intBits_fdiv_le (((bb.mul bf).add ((z.sub be).mul bc)).mono (by decide))
  unfold d_less
  unfold lowD at e0
  generalize (a * f + (0 - d) * c).fdiv (g3 (a * f + (0 - d) * c) (b * f + (0 - e) * c) (c * f)) = x at e0 b1 ⊢
  generalize (b * f + (0 - e) * c).fdiv (g3 (a * f + (0 - d) * c) (b * f + (0 - e) * c) (c * f)) = y at e0 b2 ⊢
  generalize (c * f).fdiv (g3 (a * f + (0 - d) * c) (b * f + (0 - e) * c) (c * f)) = w at e0 ⊢
  have o1 := b1.ok b1 (by decide)
  have o2 := b2.ok b2 (by decide)
  have o3 := (b2.mul b2).ok br (by decide)
  unfold negV
  by_cases h1 : 0 ≤ x
  · have d1 := decide_eq_true h1
    by_cases h2 : 0 ≤ y
    · have d2 := decide_eq_true h2
      rw [if_pos ⟨h1, h2⟩]
      simp only [mkFn, sCons, sSet, sPar, sUnp, sIf, sRet, sRetN, sDrop, sNil, sBrk, sCnt, bndS, bnd, rt, opt, fVar, fVal, fBin, fUn, rd1, rd2, Rv.rd, Sl.rd, fD, fzM, Rv.fz, fCons, fNil, dCons, dNil, aCons, aNil, aBoxN, aBox, fCall, resolve, boxes, bxpos, wb, fNm, rdAll, fTup, fLst, hAdd, hSub, hInt2, hMulL, hLt, hLe, hGt, hGe, hNeg, hAbs, hLen, hInt1, hMax2, hMin2, hIx, fSl, oNone, oSome, hSl, fB, toB, fAnd, fOr, fNot, fAndV, fOrV, fNotV, fChain, kName, kTup, kCons, kNil, slOk, sStore, fMt, mtGo, hApp, hFdiv, hMod, hDivmod, outs, List.length_cons, List.length_nil, List.getElem?_cons_zero, List.getElem?_cons_succ, List.getElem?_nil, List.set_cons_zero, List.set_cons_succ, List.replicate_succ, List.replicate_zero, List.cons_append, List.nil_append, Option.bind_some, Option.map_some, cond_true, cond_false, ite_true, ite_false, Nat.reduceAdd, Nat.reduceSub, Nat.reduceEqDiff, Nat.reduceLeDiff, if_true, if_false, reduceIte, atI_n0, atI_n1, atI_n2, atI_n3, ixN_10, ixN_20, ixN_21, hEq_int, hNe_int, Bool.not_true, decide_true, decide_false, hTuple, sTryK, sRaise, Bool.false_eq_true, Bool.not_false, sz0, sz1, sz2, sz3, sz4, sz5, sz6, sz7, sz8, e0, d1, d2]
    · have d2 := decide_eq_false h2
      rw [if_neg fun q => h2 q.2]
      by_cases h3 : x ≤ 0
      · have d3 := decide_eq_true h3
        have d4 : decide (y ≤ 0) = true := decide_eq_true (by omega)
        rw [if_pos ⟨h3, by omega⟩]
        simp only [mkFn, sCons, sSet, sPar, sUnp, sIf, sRet, sRetN, sDrop, sNil, sBrk, sCnt, bndS, bnd, rt, opt, fVar, fVal, fBin, fUn, rd1, rd2, Rv.rd, Sl.rd, fD, fzM, Rv.fz, fCons, fNil, dCons, dNil, aCons, aNil, aBoxN, aBox, fCall, resolve, boxes, bxpos, wb, fNm, rdAll, fTup, fLst, hAdd, hSub, hInt2, hMulL, hLt, hLe, hGt, hGe, hNeg, hAbs, hLen, hInt1, hMax2, hMin2, hIx, fSl, oNone, oSome, hSl, fB, toB, fAnd, fOr, fNot, fAndV, fOrV, fNotV, fChain, kName, kTup, kCons, kNil, slOk, sStore, fMt, mtGo, hApp, hFdiv, hMod, hDivmod, outs, List.length_cons, List.length_nil, List.getElem?_cons_zero, List.getElem?_cons_succ, List.getElem?_nil, List.set_cons_zero, List.set_cons_succ, List.replicate_succ, List.replicate_zero, List.cons_append, List.nil_append, Option.bind_some, Option.map_some, cond_true, cond_false, ite_true, ite_false, Nat.reduceAdd, Nat.reduceSub, Nat.reduceEqDiff, Nat.reduceLeDiff, if_true, if_false, reduceIte, atI_n0, atI_n1, atI_n2, atI_n3, ixN_10, ixN_20, ixN_21, hEq_int, hNe_int, Bool.not_true, decide_true, decide_false, hTuple, sTryK, sRaise, Bool.false_eq_true, Bool.not_false, sz0, sz1, sz2, sz3, sz4, sz5, sz6, sz7, sz8, e0, d1, d2, d3, d4]
      · have d3 := decide_eq_false h3
        have d4 : decide (x < 0) = false := decide_eq_false (by omega)
        rw [if_neg fun q => h3 q.1, if_neg (by omega)]
        simp only [mkFn, sCons, sSet, sPar, sUnp, sIf, sRet, sRetN, sDrop, sNil, sBrk, sCnt, bndS, bnd, rt, opt, fVar, fVal, fBin, fUn, rd1, rd2, Rv.rd, Sl.rd, fD, fzM, Rv.fz, fCons, fNil, dCons, dNil, aCons, aNil, aBoxN, aBox, fCall, resolve, boxes, bxpos, wb, fNm, rdAll, fTup, fLst, hAdd, hSub, hInt2, hMulL, hLt, hLe, hGt, hGe, hNeg, hAbs, hLen, hInt1, hMax2, hMin2, hIx, fSl, oNone, oSome, hSl, fB, toB, fAnd, fOr, fNot, fAndV, fOrV, fNotV, fChain, kName, kTup, kCons, kNil, slOk, sStore, fMt, mtGo, hApp, hFdiv, hMod, hDivmod, outs, List.length_cons, List.length_nil, List.getElem?_cons_zero, List.getElem?_cons_succ, List.getElem?_nil, List.set_cons_zero, List.set_cons_succ, List.replicate_succ, List.replicate_zero, List.cons_append, List.nil_append, Option.bind_some, Option.map_some, cond_true, cond_false, ite_true, ite_false, Nat.reduceAdd, Nat.reduceSub, Nat.reduceEqDiff, Nat.reduceLeDiff, if_true, if_false, reduceIte, atI_n0, atI_n1, atI_n2, atI_n3, ixN_10, ixN_20, ixN_21, hEq_int, hNe_int, Bool.not_true, decide_true, decide_false, hTuple, sTryK, sRaise, Bool.false_eq_true, Bool.not_false, sz0, sz1, sz2, sz3, sz4, sz5, sz6, sz7, sz8, e0, d1, d2, d3, d4, o1, o2, o3]
  · have d1 := decide_eq_false h1
    rw [if_neg fun q => h1 q.1]
    have d3 : decide (x ≤ 0) = true := decide_eq_true (by omega)
    by_cases h3 : y ≤ 0
    · have d4 := decide_eq_true h3
      rw [if_pos ⟨by omega, h3⟩]
      simp only [mkFn, sCons, sSet, sPar, sUnp, sIf, sRet, sRetN, sDrop, sNil, sBrk, sCnt, bndS, bnd, rt, opt, fVar, fVal, fBin, fUn, rd1, rd2, Rv.rd, Sl.rd, fD, fzM, Rv.fz, fCons, fNil, dCons, dNil, aCons, aNil, aBoxN, aBox, fCall, resolve, boxes, bxpos, wb, fNm, rdAll, fTup, fLst, hAdd, hSub, hInt2, hMulL, hLt, hLe, hGt, hGe, hNeg, hAbs, hLen, hInt1, hMax2, hMin2, hIx, fSl, oNone, oSome, hSl, fB, toB, fAnd, fOr, fNot, fAndV, fOrV, fNotV, fChain, kName, kTup, kCons, kNil, slOk, sStore, fMt, mtGo, hApp, hFdiv, hMod, hDivmod, outs, List.length_cons, List.length_nil, List.getElem?_cons_zero, List.getElem?_cons_succ, List.getElem?_nil, List.set_cons_zero, List.set_cons_succ, List.replicate_succ, List.replicate_zero, List.cons_append, List.nil_append, Option.bind_some, Option.map_some, cond_true, cond_false, ite_true, ite_false, Nat.reduceAdd, Nat.reduceSub, Nat.reduceEqDiff, Nat.reduceLeDiff, if_true, if_false, reduceIte, atI_n0, atI_n1, atI_n2, atI_n3, ixN_10, ixN_20, ixN_21, hEq_int, hNe_int, Bool.not_true, decide_true, decide_false, hTuple, sTryK, sRaise, Bool.false_eq_true, Bool.not_false, sz0, sz1, sz2, sz3, sz4, sz5, sz6, sz7, sz8, e0, d1, d3, d4]
    · have d4 := decide_eq_false h3
      have d5 : decide (x < 0) = true := decide_eq_true (by omega)
      rw [if_neg fun q => h3 q.2, if_pos (by omega)]
      simp only [mkFn, sCons, sSet, sPar, sUnp, sIf, sRet, sRetN, sDrop, sNil, sBrk, sCnt, bndS, bnd, rt, opt, fVar, fVal, fBin, fUn, rd1, rd2, Rv.rd, Sl.rd, fD, fzM, Rv.fz, fCons, fNil, dCons, dNil, aCons, aNil, aBoxN, aBox, fCall, resolve, boxes, bxpos, wb, fNm, rdAll, fTup, fLst, hAdd, hSub, hInt2, hMulL, hLt, hLe, hGt, hGe, hNeg, hAbs, hLen, hInt1, hMax2, hMin2, hIx, fSl, oNone, oSome, hSl, fB, toB, fAnd, fOr, fNot, fAndV, fOrV, fNotV, fChain, kName, kTup, kCons, kNil, slOk, sStore, fMt, mtGo, hApp, hFdiv, hMod, hDivmod, outs, List.length_cons, List.length_nil, List.getElem?_cons_zero, List.getElem?_cons_succ, List.getElem?_nil, List.set_cons_zero, List.set_cons_succ, List.replicate_succ, List.replicate_zero, List.cons_append, List.nil_append, Option.bind_some, Option.map_some, cond_true, cond_false, ite_true, ite_false, Nat.reduceAdd, Nat.reduceSub, Nat.reduceEqDiff, Nat.reduceLeDiff, if_true, if_false, reduceIte, atI_n0, atI_n1, atI_n2, atI_n3, ixN_10, ixN_20, ixN_21, hEq_int, hNe_int, Bool.not_true, decide_true, decide_false, hTuple, sTryK, sRaise, Bool.false_eq_true, Bool.not_false, sz0, sz1, sz2, sz3, sz4, sz5, sz6, sz7, sz8, e0, d1, d3, d4, d5, o1, o2, o3]
/-! ### longs -/
/-- a long of root r: above nought, in lowest terms, small -/
def GoodL (r : Int) (x : D) : Prop := ∃ a b c : Int, x = tup3 a b c ∧ 0 < c ∧ c ≤ 3 ∧ -9 ≤ a ∧ a ≤ 9 ∧ -9 ≤ b ∧ b ≤ 9 ∧ negV r a b = false ∧ (a ≠ 0 ∨ b ≠ 0) ∧ (r = 0 → b = 0) ∧ g3 a b c = 1
theorem fdiv_exact {a : Int} {g : Nat} (h : (g : Int) ∣ a) : a.fdiv g * g = a := by
  rw [Int.fdiv_eq_ediv_of_nonneg _ (Int.natCast_nonneg g)]
  exact Int.ediv_mul_cancel h
theorem g3_dvd (a b c : Int) : ((g3 a b c : Nat) : Int) ∣ a ∧ ((g3 a b c : Nat) : Int) ∣ b ∧ ((g3 a b c : Nat) : Int) ∣ c := by
  have h1 : g3 a b c ∣ Nat.gcd a.natAbs b.natAbs := Nat.gcd_dvd_left _ _
  exact ⟨Int.ofNat_dvd_left.mpr (Nat.dvd_trans h1 (Nat.gcd_dvd_left _ _)), Int.ofNat_dvd_left.mpr (Nat.dvd_trans h1 (Nat.gcd_dvd_right _ _)), Int.ofNat_dvd_left.mpr (Nat.gcd_dvd_right _ _)⟩
/-- what is in lowest terms -/
theorem g3_low {a b c : Int} (hc : 0 < c) : g3 (a.fdiv (g3 a b c)) (b.fdiv (g3 a b c)) (c.fdiv (g3 a b c)) = 1 := by
  obtain ⟨h1, h2, h3⟩ := g3_dvd a b c
  have e1 := fdiv_exact h1
  have e2 := fdiv_exact h2
  have e3 := fdiv_exact h3
  have hp := g3_pos (a := a) (b := b) hc
  generalize hg : g3 a b c = g at *
  generalize a.fdiv g = x at *
  generalize b.fdiv g = y at *
  generalize c.fdiv g = z at *
  have : g3 (x * g) (y * g) (z * g) = g3 x y z * g := by
    unfold g3
    rw [Int.natAbs_mul, Int.natAbs_mul, Int.natAbs_mul, Int.natAbs_natCast, Nat.gcd_mul_right, Nat.gcd_mul_right]
  rw [e1, e2, e3, hg] at this
  have h4 : 1 * g = g3 x y z * g := by rw [Nat.one_mul]; exact this
  exact (Nat.eq_of_mul_eq_mul_right hp h4).symm
theorem low_pos {a b c : Int} (hc : 0 < c) : 0 < c.fdiv (g3 a b c) := by
  have e3 := fdiv_exact (g3_dvd a b c).2.2
  have hp := g3_pos (a := a) (b := b) hc
  generalize c.fdiv (g3 a b c) = z at *
  rcases Int.lt_or_le 0 z with h | h
  · exact h
  · exfalso
    have : z * (g3 a b c : Nat) ≤ 0 := Int.mul_nonpos_of_nonpos_of_nonneg h (Int.natCast_nonneg _)
    omega
theorem abs_low (a : Int) (g : Nat) : (a.fdiv g).natAbs ≤ a.natAbs := PySem.natAbs_fdiv_le a g
theorem g3_zero {c : Int} : g3 0 0 c = c.natAbs := by unfold g3; simp
theorem g3_neg (a b c : Int) : g3 (-a) (-b) c = g3 a b c := by unfold g3; rw [Int.natAbs_neg, Int.natAbs_neg]
theorem negV_neg {r a b : Int} (h : negV r a b = true) : negV r (-a) (-b) = false ∧ (a ≠ 0 ∨ b ≠ 0) := by
  unfold negV at h ⊢
  by_cases h1 : 0 ≤ a ∧ 0 ≤ b
  · rw [if_pos h1] at h; cases h
  · rw [if_neg h1] at h
    refine ⟨?_, by omega⟩
    by_cases h2 : a ≤ 0 ∧ b ≤ 0
    · rw [if_pos (by omega)]
    · rw [if_neg h2] at h
      rw [if_neg (by omega), if_neg (by omega)]
      have s1 : -a * -a = a * a := Int.neg_mul_neg a a
      have s2 : -b * -b = b * b := Int.neg_mul_neg b b
      rw [s1, s2]
      by_cases h3 : a < 0
      · rw [if_pos h3] at h
        rw [if_neg (by omega)]
        have := of_decide_eq_true h
        exact decide_eq_false (by omega)
      · rw [if_neg h3] at h
        rw [if_pos (by omega)]
        have := of_decide_eq_true h
        exact decide_eq_false (by omega)
theorem smallB {x : Int} (h : x.natAbs < 2 ^ 60) : Bt 60 x := bits_le h
theorem less0_eq {r a b c : Int} (hc : 0 < c) (h1 : g3 a b c = 1) (ba : Bt 900 a) (bb : Bt 900 b) (bc : Bt 900 c) (br : Bt 60 r) : d_less [.dat (.int r), .dat (tup3 a b c), .dat (tup3 0 0 1)] = some (.inr (false, .bool (negV r a b)), [.no, .no, .no]) := by
  rw [less_eq (d := 0) (e := 0) (f := 1) hc (by decide) ba bb bc (by decide) (by decide) (by decide) br]
  have e1 : a * 1 + (0 - 0) * c = a := by rw [Int.sub_zero, Int.zero_mul, Int.mul_one, Int.add_zero]
  have e2 : b * 1 + (0 - 0) * c = b := by rw [Int.sub_zero, Int.zero_mul, Int.mul_one, Int.add_zero]
  rw [e1, e2, Int.mul_one, h1]
  have e3 : ∀ x : Int, x.fdiv ((1 : Nat) : Int) = x := fun x => by rw [Int.natCast_one]; exact Int.fdiv_one x
  rw [e3, e3]
theorem noB_tup3 (a b c : Int) : noB (tup3 a b c) = true := by simp [noB, noBs]
theorem sh_tup3 (a b c : Int) : SeqAt.shaped (tup3 a b c) = true := shaped_by 1 (noB_tup3 a b c) (by simp [dpth, dpths]) (by decide)
theorem hEq_tup3 (a b c d e f : Int) : hEq (tup3 a b c) (tup3 d e f) = some (.val (.bool (decide (a = d ∧ b = e ∧ c = f)))) := by
  by_cases h : a = d ∧ b = e ∧ c = f
  · obtain ⟨rfl, rfl, rfl⟩ := h
    rw [hEq_t (sh_tup3 _ _ _) (sh_tup3 _ _ _) (eqv_same (noB_tup3 _ _ _)), decide_eq_true ⟨rfl, rfl, rfl⟩]
  · rw [hEq_f (sh_tup3 _ _ _) (sh_tup3 _ _ _) (eqv_ne (noB_tup3 _ _ _) (noB_tup3 _ _ _) fun q => h (by simpa using q)), decide_eq_false h]
theorem long_ex (n r : Int) (br : Bt 60 r) : ∃ n' x, GoodL r x ∧ d_long [.own 1 (.list [.int n]), .dat (.int r)] = some (.inr (false, x), [.own 1 (.list [.int n']), .no]) := by
  by_cases hr : r = 0
  · subst hr
    obtain ⟨n1, d1, h1, h2, e1⟩ := take_ex n (m := 9) (by decide) (by decide)
    obtain ⟨n2, d2, h3, h4, e2⟩ := take_ex n1 (m := 3) (by decide) (by decide)
    have ef := fit_eq (a := 1 + d1) (b := 0) (c := 1 + d2) (by omega) ((smallB (by omega)).mono (by decide))
    have p1 := abs_low (1 + d1) (g3 (1 + d1) 0 (1 + d2))
    have p3 := abs_low (1 + d2) (g3 (1 + d1) 0 (1 + d2))
    have p4 := low_pos (a := 1 + d1) (b := 0) (c := 1 + d2) (by omega)
    have p5 := g3_low (a := 1 + d1) (b := 0) (c := 1 + d2) (by omega)
    have x1 := fdiv_exact (g3_dvd (1 + d1) 0 (1 + d2)).1
    have z : (0 : Int).fdiv (g3 (1 + d1) 0 (1 + d2) : Nat) = 0 := Int.zero_fdiv _
    have hp := g3_pos (a := 1 + d1) (b := 0) (c := 1 + d2) (by omega)
    refine ⟨n2, _, ⟨_, _, _, rfl, p4, by omega, by omega, by omega, by rw [z]; decide, by rw [z]; decide, ?_, .inl ?_, fun _ => z, p5⟩, by simp only [d_long, mkFn, sCons, sSet, sPar, sUnp, sIf, sRet, sRetN, sDrop, sNil, sBrk, sCnt, bndS, bnd, rt, opt, fVar, fVal, fBin, fUn, rd1, rd2, Rv.rd, Sl.rd, fD, fzM, Rv.fz, fCons, fNil, dCons, dNil, aCons, aNil, aBoxN, aBox, fCall, resolve, boxes, bxpos, wb, fNm, rdAll, fTup, fLst, hAdd, hSub, hInt2, hMulL, hLt, hLe, hGt, hGe, hNeg, hAbs, hLen, hInt1, hMax2, hMin2, hIx, fSl, oNone, oSome, hSl, fB, toB, fAnd, fOr, fNot, fAndV, fOrV, fNotV, fChain, kName, kTup, kCons, kNil, slOk, sStore, fMt, mtGo, hApp, hFdiv, hMod, hDivmod, outs, List.length_cons, List.length_nil, List.getElem?_cons_zero, List.getElem?_cons_succ, List.getElem?_nil, List.set_cons_zero, List.set_cons_succ, List.replicate_succ, List.replicate_zero, List.cons_append, List.nil_append, Option.bind_some, Option.map_some, cond_true, cond_false, ite_true, ite_false, Nat.reduceAdd, Nat.reduceSub, Nat.reduceEqDiff, Nat.reduceLeDiff, if_true, if_false, reduceIte, atI_n0, atI_n1, atI_n2, atI_n3, ixN_10, ixN_20, ixN_21, hEq_int, hNe_int, Bool.not_true, decide_true, decide_false, hTuple, sTryK, sRaise, Bool.false_eq_true, Bool.not_false, sz0, sz1, sz2, sz3, sz4, sz5, sz6, sz7, sz8, decide_true, e1, e2, ef]; rfl⟩
    · have : 0 ≤ (1 + d1).fdiv (g3 (1 + d1) 0 (1 + d2) : Nat) := Int.fdiv_nonneg (by omega) (Int.natCast_nonneg _)
      unfold negV
      rw [if_pos ⟨this, by rw [z]; decide⟩]
    · intro q
      rw [q, Int.zero_mul] at x1
      omega
  · obtain ⟨n1, d1, h1, h2, e1⟩ := take_ex n (m := 12) (by decide) (by decide)
    obtain ⟨n2, d2, h3, h4, e2⟩ := take_ex n1 (m := 7) (by decide) (by decide)
    obtain ⟨n3, d3, h5, h6, e3⟩ := take_ex n2 (m := 2) (by decide) (by decide)
    have ef := fit_eq (a := d1 - 3) (b := d2 - 2) (c := 1 + d3) (by omega) ((smallB (by omega)).mono (by decide))
    have p1 := abs_low (d1 - 3) (g3 (d1 - 3) (d2 - 2) (1 + d3))
    have p2 := abs_low (d2 - 2) (g3 (d1 - 3) (d2 - 2) (1 + d3))
    have p3 := abs_low (1 + d3) (g3 (d1 - 3) (d2 - 2) (1 + d3))
    have p4 := low_pos (a := d1 - 3) (b := d2 - 2) (c := 1 + d3) (by omega)
    have p5 := g3_low (a := d1 - 3) (b := d2 - 2) (c := 1 + d3) (by omega)
    unfold lowD at ef
    generalize (d1 - 3).fdiv (g3 (d1 - 3) (d2 - 2) (1 + d3) : Nat) = a at ef p1 p5
    generalize (d2 - 2).fdiv (g3 (d1 - 3) (d2 - 2) (1 + d3) : Nat) = b at ef p2 p5
    generalize (1 + d3).fdiv (g3 (d1 - 3) (d2 - 2) (1 + d3) : Nat) = c at ef p3 p4 p5
    have el := less0_eq (r := r) p4 p5 ((smallB (by omega)).mono (by decide)) ((smallB (by omega)).mono (by decide)) ((smallB (by omega)).mono (by decide)) br
    have er := decide_eq_false hr
    cases q : negV r a b with
    | true =>
      rw [q] at el
      obtain ⟨q1, q2⟩ := negV_neg q
      refine ⟨n3, tup3 (0 - a) (0 - b) c, ⟨0 - a, 0 - b, c, rfl, p4, by omega, by omega, by omega, by omega, by omega, ?_, by omega, fun z => absurd z hr, ?_⟩, by simp only [d_long, mkFn, sCons, sSet, sPar, sUnp, sIf, sRet, sRetN, sDrop, sNil, sBrk, sCnt, bndS, bnd, rt, opt, fVar, fVal, fBin, fUn, rd1, rd2, Rv.rd, Sl.rd, fD, fzM, Rv.fz, fCons, fNil, dCons, dNil, aCons, aNil, aBoxN, aBox, fCall, resolve, boxes, bxpos, wb, fNm, rdAll, fTup, fLst, hAdd, hSub, hInt2, hMulL, hLt, hLe, hGt, hGe, hNeg, hAbs, hLen, hInt1, hMax2, hMin2, hIx, fSl, oNone, oSome, hSl, fB, toB, fAnd, fOr, fNot, fAndV, fOrV, fNotV, fChain, kName, kTup, kCons, kNil, slOk, sStore, fMt, mtGo, hApp, hFdiv, hMod, hDivmod, outs, List.length_cons, List.length_nil, List.getElem?_cons_zero, List.getElem?_cons_succ, List.getElem?_nil, List.set_cons_zero, List.set_cons_succ, List.replicate_succ, List.replicate_zero, List.cons_append, List.nil_append, Option.bind_some, Option.map_some, cond_true, cond_false, ite_true, ite_false, Nat.reduceAdd, Nat.reduceSub, Nat.reduceEqDiff, Nat.reduceLeDiff, if_true, if_false, reduceIte, atI_n0, atI_n1, atI_n2, atI_n3, ixN_10, ixN_20, ixN_21, hEq_int, hNe_int, Bool.not_true, decide_true, decide_false, hTuple, sTryK, sRaise, Bool.false_eq_true, Bool.not_false, sz0, sz1, sz2, sz3, sz4, sz5, sz6, sz7, sz8, er, e1, e2, e3, ef, el]⟩
      · rw [Int.zero_sub, Int.zero_sub]; exact q1
      · rw [Int.zero_sub, Int.zero_sub, g3_neg]; exact p5
    | false =>
      rw [q] at el
      by_cases hz : a = 0 ∧ b = 0 ∧ c = 1
      · have ed := decide_eq_true hz
        refine ⟨n3, tup3 1 0 1, ⟨1, 0, 1, rfl, by decide, by decide, by decide, by decide, by decide, by decide, rfl, .inl (by decide), fun _ => rfl, by decide⟩, by simp only [d_long, mkFn, sCons, sSet, sPar, sUnp, sIf, sRet, sRetN, sDrop, sNil, sBrk, sCnt, bndS, bnd, rt, opt, fVar, fVal, fBin, fUn, rd1, rd2, Rv.rd, Sl.rd, fD, fzM, Rv.fz, fCons, fNil, dCons, dNil, aCons, aNil, aBoxN, aBox, fCall, resolve, boxes, bxpos, wb, fNm, rdAll, fTup, fLst, hAdd, hSub, hInt2, hMulL, hLt, hLe, hGt, hGe, hNeg, hAbs, hLen, hInt1, hMax2, hMin2, hIx, fSl, oNone, oSome, hSl, fB, toB, fAnd, fOr, fNot, fAndV, fOrV, fNotV, fChain, kName, kTup, kCons, kNil, slOk, sStore, fMt, mtGo, hApp, hFdiv, hMod, hDivmod, outs, List.length_cons, List.length_nil, List.getElem?_cons_zero, List.getElem?_cons_succ, List.getElem?_nil, List.set_cons_zero, List.set_cons_succ, List.replicate_succ, List.replicate_zero, List.cons_append, List.nil_append, Option.bind_some, Option.map_some, cond_true, cond_false, ite_true, ite_false, Nat.reduceAdd, Nat.reduceSub, Nat.reduceEqDiff, Nat.reduceLeDiff, if_true, if_false, reduceIte, atI_n0, atI_n1, atI_n2, atI_n3, ixN_10, ixN_20, ixN_21, hEq_int, hNe_int, Bool.not_true, decide_true, decide_false, hTuple, sTryK, sRaise, Bool.false_eq_true, Bool.not_false, sz0, sz1, sz2, sz3, sz4, sz5, sz6, sz7, sz8, er, e1, e2, e3, ef, el, hEq_tup3, ed]⟩
      · have ed := decide_eq_false hz
        refine ⟨n3, tup3 a b c, ⟨a, b, c, rfl, p4, by omega, by omega, by omega, by omega, by omega, q, ?_, fun z => absurd z hr, p5⟩, by simp only [d_long, mkFn, sCons, sSet, sPar, sUnp, sIf, sRet, sRetN, sDrop, sNil, sBrk, sCnt, bndS, bnd, rt, opt, fVar, fVal, fBin, fUn, rd1, rd2, Rv.rd, Sl.rd, fD, fzM, Rv.fz, fCons, fNil, dCons, dNil, aCons, aNil, aBoxN, aBox, fCall, resolve, boxes, bxpos, wb, fNm, rdAll, fTup, fLst, hAdd, hSub, hInt2, hMulL, hLt, hLe, hGt, hGe, hNeg, hAbs, hLen, hInt1, hMax2, hMin2, hIx, fSl, oNone, oSome, hSl, fB, toB, fAnd, fOr, fNot, fAndV, fOrV, fNotV, fChain, kName, kTup, kCons, kNil, slOk, sStore, fMt, mtGo, hApp, hFdiv, hMod, hDivmod, outs, List.length_cons, List.length_nil, List.getElem?_cons_zero, List.getElem?_cons_succ, List.getElem?_nil, List.set_cons_zero, List.set_cons_succ, List.replicate_succ, List.replicate_zero, List.cons_append, List.nil_append, Option.bind_some, Option.map_some, cond_true, cond_false, ite_true, ite_false, Nat.reduceAdd, Nat.reduceSub, Nat.reduceEqDiff, Nat.reduceLeDiff, if_true, if_false, reduceIte, atI_n0, atI_n1, atI_n2, atI_n3, ixN_10, ixN_20, ixN_21, hEq_int, hNe_int, Bool.not_true, decide_true, decide_false, hTuple, sTryK, sRaise, Bool.false_eq_true, Bool.not_false, sz0, sz1, sz2, sz3, sz4, sz5, sz6, sz7, sz8, er, e1, e2, e3, ef, el, hEq_tup3, ed]⟩
        by_cases ha : a = 0
        · by_cases hb : b = 0
          · subst ha hb
            rw [g3_zero] at p5
            omega
          · exact .inr hb
        · exact .inl ha
/-! ### changes -/
theorem map_eraseIdx {α β : Type} (f : α → β) : ∀ (l : List α) (k : Nat), (l.map f).eraseIdx k = (l.eraseIdx k).map f
  | [], _ => rfl
  | _ :: _, 0 => rfl
  | x :: l, k + 1 => by
    show f x :: (l.map f).eraseIdx k = f x :: (l.eraseIdx k).map f
    rw [map_eraseIdx f l k]
theorem erase_perm {α : Type} : ∀ (l : List α) (k : Nat) (h : k < l.length), (l[k] :: l.eraseIdx k).Perm l
  | x :: l, 0, _ => .refl _
  | x :: l, k + 1, h => by
    have hk : k < l.length := by simpa using h
    show (l[k] :: x :: l.eraseIdx k).Perm (x :: l)
    exact (List.Perm.swap _ _ _).trans ((erase_perm l k hk).cons x)
theorem hPopAt_nat {xs : List D} {k : Nat} {d : D} (h : xs[k]? = some d) (hk : k < 4611686018427387904) : hPopAt xs [.int (k : Nat)] = some (d, xs.eraseIdx k) := by
  have hl := (List.getElem?_eq_some_iff.mp h).1
  unfold hPopAt
  simp only
  rw [smI_of (by omega) (by omega), cond_true, ixN_natE, if_pos hl]
  simp only [h]
theorem noBs_ints (l : List Int) : noBs (l.map PyData.int) = true := noBs_of fun d h => by
  obtain ⟨i, _, rfl⟩ := List.mem_map.mp h
  simp [noB]
theorem dpths_ints (k : Nat) (l : List Int) : dpths k (l.map PyData.int) = true := dpths_of fun d h => by
  obtain ⟨i, _, rfl⟩ := List.mem_map.mp h
  simp [dpth]
theorem noB_ints (l : List Int) : noB (.list (l.map PyData.int)) = true := by simp only [noB]; exact noBs_ints l
theorem sh_ints (l : List Int) : SeqAt.shaped (.list (l.map PyData.int)) = true := shaped_by 1 (noB_ints l) (by simp only [dpth]; exact dpths_ints 0 l) (by decide)
theorem hNe_nil (l : List Int) : hNe (.list (l.map PyData.int)) (.list []) = some (.val (.bool (!decide (l = [])))) := by
  have h0 := sh_ints []
  rw [List.map_nil] at h0
  by_cases h : l = []
  · subst h
    rw [List.map_nil, hNe_t h0 h0 (by simp [PyData.eqv, PyData.eqvAll])]
    rfl
  · rw [hNe_f (sh_ints l) h0 (eqv_ne (noB_ints l) (by simp [noB, noBs]) fun q => h (by simpa using q)), decide_eq_false h]
    rfl
/-- 0 .. n - 1 -/
def upto (n : Nat) : List Int := (List.range n).map fun i : Nat => (i : Int)
theorem upto_length (n : Nat) : (upto n).length = n := by unfold upto; rw [List.length_map, List.length_range]
theorem rgL_upto (n : Nat) : rgL 0 (n : Nat) = (upto n).map PyData.int := by
  unfold rgL upto
  rw [List.map_map]
  refine List.map_congr_left fun i _ => ?_
  simp only [Function.comp_apply, Int.zero_add]
theorem rng_upto (n : Nat) : rng 0 n = (upto n).map PyData.int := by
  unfold rng upto
  rw [List.map_map]
  refine List.map_congr_left fun i _ => ?_
  simp only [Function.comp_apply, Int.zero_add]
theorem hLR1_nat {n : Nat} (h : n ≤ 1000) : hLR1 (.int (n : Nat)) = some (.fresh (.list ((upto n).map PyData.int))) := by
  have : rgOk 0 (n : Nat) = true := by
    unfold rgOk
    rw [smI_of (by omega) (by omega), smI_of (by omega) (by omega), decide_eq_true (by omega)]
    rfl
  unfold hLR1
  simp only [this, cond_true, rgL_upto]
theorem take_nat (n : Int) {m : Nat} (h0 : 0 < m) (h1 : m ≤ 1000) : ∃ (n' : Int) (d : Nat), d < m ∧ d_take [.own 1 (.list [.int n]), .dat (.int (m : Nat))] = some (.inr (false, .int (d : Nat)), [.own 1 (.list [.int n']), .no]) := by
  obtain ⟨n', d, h2, h3, e⟩ := take_ex n (m := (m : Nat)) (by omega) (by omega)
  refine ⟨n', d.toNat, by omega, ?_⟩
  have : ((d.toNat : Nat) : Int) = d := by omega
  rw [this]
  exact e
/-- a change: its root, its longs, its order -/
abbrev chD (r : Int) (longs : List D) (order : List Int) : D := .tuple [.int r, .tuple longs, .tuple (order.map PyData.int)]
theorem longs_ex (S1 S2 : Sl) (r : Int) (br : Bt 60 r) (R : Sl) (many : Nat) (hm : many ≤ 1000) (n : Int) : ∃ (n' : Int) (longs : List D), longs.length = many ∧ (∀ x ∈ longs, GoodL r x) ∧
    fLc [9] (fiR1 (dCons (fVar 4) dNil)) (kName 9) tYesF (fCall d_long (aBoxN 0 (aCons (fVar 3) aNil))) [.own 1 (.list [.int n]), S1, S2, .dat (.int r), .dat (.int (many : Nat)), .no, .no, .no, .no, .no] =
      some (.inr (.fresh (.list longs)), [.own 1 (.list [.int n']), S1, S2, .dat (.int r), .dat (.int (many : Nat)), .no, .no, .no, .no, .no]) := by
  obtain ⟨out, fs', e1, ⟨n', rfl⟩, e3, e4⟩ := lcL_inv (vs := [9]) (g := kName 9) (fe := fCall d_long (aBoxN 0 (aCons (fVar 3) aNil))) (fun fs => ∃ n, fs = [.own 1 (.list [.int n]), S1, S2, .dat (.int r), .dat (.int (many : Nat)), .no, .no, .no, .no, .no]) (GoodL r)
    ((upto many).map PyData.int) [] _ (by rw [List.length_nil, List.length_map, upto_length]; exact szl _ (by omega)) ⟨n, rfl⟩ (by
      rintro d hd fs ⟨n, rfl⟩
      obtain ⟨n', x, hx, ex⟩ := long_ex n r br
      exact ⟨_, [.own 1 (.list [.int n']), S1, S2, .dat (.int r), .dat (.int (many : Nat)), .no, .no, .no, .no, .dat d], x, rfl, by simp only [mkFn, sCons, sSet, sPar, sUnp, sIf, sRet, sRetN, sDrop, sNil, sBrk, sCnt, bndS, bnd, rt, opt, fVar, fVal, fBin, fUn, rd1, rd2, Rv.rd, Sl.rd, fD, fzM, Rv.fz, fCons, fNil, dCons, dNil, aCons, aNil, aBoxN, aBox, fCall, resolve, boxes, bxpos, wb, fNm, rdAll, fTup, fLst, hAdd, hSub, hInt2, hMulL, hLt, hLe, hGt, hGe, hNeg, hAbs, hLen, hInt1, hMax2, hMin2, hIx, fSl, oNone, oSome, hSl, fB, toB, fAnd, fOr, fNot, fAndV, fOrV, fNotV, fChain, kName, kTup, kCons, kNil, slOk, sStore, fMt, mtGo, hApp, hFdiv, hMod, hDivmod, outs, List.length_cons, List.length_nil, List.getElem?_cons_zero, List.getElem?_cons_succ, List.getElem?_nil, List.set_cons_zero, List.set_cons_succ, List.replicate_succ, List.replicate_zero, List.cons_append, List.nil_append, Option.bind_some, Option.map_some, cond_true, cond_false, ite_true, ite_false, Nat.reduceAdd, Nat.reduceSub, Nat.reduceEqDiff, Nat.reduceLeDiff, if_true, if_false, reduceIte, atI_n0, atI_n1, atI_n2, atI_n3, ixN_10, ixN_20, ixN_21, hEq_int, hNe_int, Bool.not_true, decide_true, decide_false, hTuple, sTryK, sRaise, Bool.false_eq_true, Bool.not_false, sz0, sz1, sz2, sz3, sz4, sz5, sz6, sz7, sz8, ex], hx, n', rfl⟩)
  rw [List.nil_append] at e1
  refine ⟨n', out, by rw [e3, List.length_map, upto_length], e4, ?_⟩
  refine fLc_of (ds := (upto many).map PyData.int) (fs1 := [.own 1 (.list [.int n]), S1, S2, .dat (.int r), .dat (.int (many : Nat)), .no, .no, .no, .no, .no]) ?_ e1
  have h1 : smI ((many : Nat) : Int) = true := smI_of (by omega) (by omega)
  simp only [fiR1, mkFn, sCons, sSet, sPar, sUnp, sIf, sRet, sRetN, sDrop, sNil, sBrk, sCnt, bndS, bnd, rt, opt, fVar, fVal, fBin, fUn, rd1, rd2, Rv.rd, Sl.rd, fD, fzM, Rv.fz, fCons, fNil, dCons, dNil, aCons, aNil, aBoxN, aBox, fCall, resolve, boxes, bxpos, wb, fNm, rdAll, fTup, fLst, hAdd, hSub, hInt2, hMulL, hLt, hLe, hGt, hGe, hNeg, hAbs, hLen, hInt1, hMax2, hMin2, hIx, fSl, oNone, oSome, hSl, fB, toB, fAnd, fOr, fNot, fAndV, fOrV, fNotV, fChain, kName, kTup, kCons, kNil, slOk, sStore, fMt, mtGo, hApp, hFdiv, hMod, hDivmod, outs, List.length_cons, List.length_nil, List.getElem?_cons_zero, List.getElem?_cons_succ, List.getElem?_nil, List.set_cons_zero, List.set_cons_succ, List.replicate_succ, List.replicate_zero, List.cons_append, List.nil_append, Option.bind_some, Option.map_some, cond_true, cond_false, ite_true, ite_false, Nat.reduceAdd, Nat.reduceSub, Nat.reduceEqDiff, Nat.reduceLeDiff, if_true, if_false, reduceIte, atI_n0, atI_n1, atI_n2, atI_n3, ixN_10, ixN_20, ixN_21, hEq_int, hNe_int, Bool.not_true, decide_true, decide_false, hTuple, sTryK, sRaise, Bool.false_eq_true, Bool.not_false, sz0, sz1, sz2, sz3, sz4, sz5, sz6, sz7, sz8, h1, rng_upto, Int.toNat_natCast]
theorem order_ex (S1 S2 S3 S4 S5 : Sl) (way : Int) (N : Nat) (hN : N ≤ 1000) (n : Int) : ∃ (n' : Int) (order : List Int), order.Perm (upto N) ∧
    sWhile (fB (fBin hNe (fVar 6) (fLst dNil))) (sDrop (fMt 7 hApp (dCons (fMt 6 hPopAt (dCons (fBin hIx (fLst (dCons (fCall d_take (aBoxN 0 (aCons (fNm hLen (fCons (fVar 6) fNil)) aNil))) (dCons (fBin hSub (fNm hLen (fCons (fVar 6) fNil)) (fVal (.int 1))) dNil))) (fNm hInt1 (fCons (fBin hEq (fVar 8) (fVal (.int 0))) fNil))) dNil)) dNil)))
      [.own 1 (.list [.int n]), S1, S2, S3, S4, S5, .own 0 (.list ((upto N).map PyData.int)), .own 0 (.list []), .dat (.int way), .no] =
      some (.nx, [.own 1 (.list [.int n']), S1, S2, S3, S4, S5, .own 0 (.list []), .own 0 (.list (order.map PyData.int)), .dat (.int way), .no]) := by
  obtain ⟨fs', e, n', order, hp, rfl⟩ := sWhile_ind (c := fB (fBin hNe (fVar 6) (fLst dNil))) (b := sDrop (fMt 7 hApp (dCons (fMt 6 hPopAt (dCons (fBin hIx (fLst (dCons (fCall d_take (aBoxN 0 (aCons (fNm hLen (fCons (fVar 6) fNil)) aNil))) (dCons (fBin hSub (fNm hLen (fCons (fVar 6) fNil)) (fVal (.int 1))) dNil))) (fNm hInt1 (fCons (fBin hEq (fVar 8) (fVal (.int 0))) fNil))) dNil)) dNil)))
    (fun m fs => ∃ (n : Int) (left ord : List Int), left.length = m ∧ (left ++ ord).Perm (upto N) ∧ fs = [.own 1 (.list [.int n]), S1, S2, S3, S4, S5, .own 0 (.list (left.map PyData.int)), .own 0 (.list (ord.map PyData.int)), .dat (.int way), .no])
    (fun fs => ∃ (n : Int) (ord : List Int), ord.Perm (upto N) ∧ fs = [.own 1 (.list [.int n]), S1, S2, S3, S4, S5, .own 0 (.list []), .own 0 (.list (ord.map PyData.int)), .dat (.int way), .no])
    (by
      rintro m fs ⟨n, left, ord, hm, hp, rfl⟩
      by_cases h : left = []
      · subst h
        have ed : decide (([] : List Int) = []) = true := rfl
        exact .inl ⟨_, by simp only [mkFn, sCons, sSet, sPar, sUnp, sIf, sRet, sRetN, sDrop, sNil, sBrk, sCnt, bndS, bnd, rt, opt, fVar, fVal, fBin, fUn, rd1, rd2, Rv.rd, Sl.rd, fD, fzM, Rv.fz, fCons, fNil, dCons, dNil, aCons, aNil, aBoxN, aBox, fCall, resolve, boxes, bxpos, wb, fNm, rdAll, fTup, fLst, hAdd, hSub, hInt2, hMulL, hLt, hLe, hGt, hGe, hNeg, hAbs, hLen, hInt1, hMax2, hMin2, hIx, fSl, oNone, oSome, hSl, fB, toB, fAnd, fOr, fNot, fAndV, fOrV, fNotV, fChain, kName, kTup, kCons, kNil, slOk, sStore, fMt, mtGo, hApp, hFdiv, hMod, hDivmod, outs, List.length_cons, List.length_nil, List.getElem?_cons_zero, List.getElem?_cons_succ, List.getElem?_nil, List.set_cons_zero, List.set_cons_succ, List.replicate_succ, List.replicate_zero, List.cons_append, List.nil_append, Option.bind_some, Option.map_some, cond_true, cond_false, ite_true, ite_false, Nat.reduceAdd, Nat.reduceSub, Nat.reduceEqDiff, Nat.reduceLeDiff, if_true, if_false, reduceIte, atI_n0, atI_n1, atI_n2, atI_n3, ixN_10, ixN_20, ixN_21, hEq_int, hNe_int, Bool.not_true, decide_true, decide_false, hTuple, sTryK, sRaise, Bool.false_eq_true, Bool.not_false, sz0, sz1, sz2, sz3, sz4, sz5, sz6, sz7, sz8, hNe_nil, ed]; rfl, n, ord, hp, rfl⟩
      · right
        have hl : 0 < left.length := List.length_pos_iff.mpr h
        have hlen := hp.length_eq
        rw [List.length_append, upto_length] at hlen
        have ed := decide_eq_false h
        obtain ⟨n', d, hd, et⟩ := take_nat n (m := left.length) hl (by omega)
        have hz : (ord.length < sizeLine) = True := eq_true (Nat.lt_of_lt_of_le (show ord.length < 1001 by omega) (szl _ (by decide)))
        have fin : ∀ k : Nat, k < left.length → ∃ x : Int, (left.map PyData.int)[k]? = some (.int x) ∧ ((left.eraseIdx k) ++ (ord ++ [x])).Perm (upto N) := fun k hk => by
          refine ⟨left[k], by rw [List.getElem?_map, List.getElem?_eq_getElem hk]; rfl, ?_⟩
          refine List.Perm.trans ?_ hp
          rw [← List.append_assoc]
          refine (List.perm_append_comm).trans ?_
          show (left[k] :: (left.eraseIdx k ++ ord)).Perm (left ++ ord)
          exact (erase_perm left k hk).append_right ord
        have el : ((left.length : Nat) : Int) - 1 = ((left.length - 1 : Nat) : Int) := by omega
        by_cases hw : way = 0
        · have ew := decide_eq_true hw
          obtain ⟨x, h1, h2⟩ := fin (left.length - 1) (by omega)
          refine ⟨_, [.own 1 (.list [.int n']), S1, S2, S3, S4, S5, .own 0 (.list ((left.eraseIdx (left.length - 1)).map PyData.int)), .own 0 (.list ((ord ++ [x]).map PyData.int)), .dat (.int way), .no], (left.eraseIdx (left.length - 1)).length, ?_, by simp only [mkFn, sCons, sSet, sPar, sUnp, sIf, sRet, sRetN, sDrop, sNil, sBrk, sCnt, bndS, bnd, rt, opt, fVar, fVal, fBin, fUn, rd1, rd2, Rv.rd, Sl.rd, fD, fzM, Rv.fz, fCons, fNil, dCons, dNil, aCons, aNil, aBoxN, aBox, fCall, resolve, boxes, bxpos, wb, fNm, rdAll, fTup, fLst, hAdd, hSub, hInt2, hMulL, hLt, hLe, hGt, hGe, hNeg, hAbs, hLen, hInt1, hMax2, hMin2, hIx, fSl, oNone, oSome, hSl, fB, toB, fAnd, fOr, fNot, fAndV, fOrV, fNotV, fChain, kName, kTup, kCons, kNil, slOk, sStore, fMt, mtGo, hApp, hFdiv, hMod, hDivmod, outs, List.length_cons, List.length_nil, List.getElem?_cons_zero, List.getElem?_cons_succ, List.getElem?_nil, List.set_cons_zero, List.set_cons_succ, List.replicate_succ, List.replicate_zero, List.cons_append, List.nil_append, Option.bind_some, Option.map_some, cond_true, cond_false, ite_true, ite_false, Nat.reduceAdd, Nat.reduceSub, Nat.reduceEqDiff, Nat.reduceLeDiff, if_true, if_false, reduceIte, atI_n0, atI_n1, atI_n2, atI_n3, ixN_10, ixN_20, ixN_21, hEq_int, hNe_int, Bool.not_true, decide_true, decide_false, hTuple, sTryK, sRaise, Bool.false_eq_true, Bool.not_false, sz0, sz1, sz2, sz3, sz4, sz5, sz6, sz7, sz8, hNe_nil, ed]; rfl, ?_, n', _, _, rfl, h2, rfl⟩
          · rw [List.length_eraseIdx_of_lt (by omega)]; omega
          · have hpop := hPopAt_nat h1 (by omega)
            simp only [mkFn, sCons, sSet, sPar, sUnp, sIf, sRet, sRetN, sDrop, sNil, sBrk, sCnt, bndS, bnd, rt, opt, fVar, fVal, fBin, fUn, rd1, rd2, Rv.rd, Sl.rd, fD, fzM, Rv.fz, fCons, fNil, dCons, dNil, aCons, aNil, aBoxN, aBox, fCall, resolve, boxes, bxpos, wb, fNm, rdAll, fTup, fLst, hAdd, hSub, hInt2, hMulL, hLt, hLe, hGt, hGe, hNeg, hAbs, hLen, hInt1, hMax2, hMin2, hIx, fSl, oNone, oSome, hSl, fB, toB, fAnd, fOr, fNot, fAndV, fOrV, fNotV, fChain, kName, kTup, kCons, kNil, slOk, sStore, fMt, mtGo, hApp, hFdiv, hMod, hDivmod, outs, List.length_cons, List.length_nil, List.getElem?_cons_zero, List.getElem?_cons_succ, List.getElem?_nil, List.set_cons_zero, List.set_cons_succ, List.replicate_succ, List.replicate_zero, List.cons_append, List.nil_append, Option.bind_some, Option.map_some, cond_true, cond_false, ite_true, ite_false, Nat.reduceAdd, Nat.reduceSub, Nat.reduceEqDiff, Nat.reduceLeDiff, if_true, if_false, reduceIte, atI_n0, atI_n1, atI_n2, atI_n3, ixN_10, ixN_20, ixN_21, hEq_int, hNe_int, Bool.not_true, decide_true, decide_false, hTuple, sTryK, sRaise, Bool.false_eq_true, Bool.not_false, sz0, sz1, sz2, sz3, sz4, sz5, sz6, sz7, sz8, List.length_map, et, ew, el, hpop, hz, map_eraseIdx, List.map_append, List.map_cons, List.map_nil]
        · have ew := decide_eq_false hw
          obtain ⟨x, h1, h2⟩ := fin d hd
          refine ⟨_, [.own 1 (.list [.int n']), S1, S2, S3, S4, S5, .own 0 (.list ((left.eraseIdx d).map PyData.int)), .own 0 (.list ((ord ++ [x]).map PyData.int)), .dat (.int way), .no], (left.eraseIdx d).length, ?_, by simp only [mkFn, sCons, sSet, sPar, sUnp, sIf, sRet, sRetN, sDrop, sNil, sBrk, sCnt, bndS, bnd, rt, opt, fVar, fVal, fBin, fUn, rd1, rd2, Rv.rd, Sl.rd, fD, fzM, Rv.fz, fCons, fNil, dCons, dNil, aCons, aNil, aBoxN, aBox, fCall, resolve, boxes, bxpos, wb, fNm, rdAll, fTup, fLst, hAdd, hSub, hInt2, hMulL, hLt, hLe, hGt, hGe, hNeg, hAbs, hLen, hInt1, hMax2, hMin2, hIx, fSl, oNone, oSome, hSl, fB, toB, fAnd, fOr, fNot, fAndV, fOrV, fNotV, fChain, kName, kTup, kCons, kNil, slOk, sStore, fMt, mtGo, hApp, hFdiv, hMod, hDivmod, outs, List.length_cons, List.length_nil, List.getElem?_cons_zero, List.getElem?_cons_succ, List.getElem?_nil, List.set_cons_zero, List.set_cons_succ, List.replicate_succ, List.replicate_zero, List.cons_append, List.nil_append, Option.bind_some, Option.map_some, cond_true, cond_false, ite_true, ite_false, Nat.reduceAdd, Nat.reduceSub, Nat.reduceEqDiff, Nat.reduceLeDiff, if_true, if_false, reduceIte, atI_n0, atI_n1, atI_n2, atI_n3, ixN_10, ixN_20, ixN_21, hEq_int, hNe_int, Bool.not_true, decide_true, decide_false, hTuple, sTryK, sRaise, Bool.false_eq_true, Bool.not_false, sz0, sz1, sz2, sz3, sz4, sz5, sz6, sz7, sz8, hNe_nil, ed]; rfl, ?_, n', _, _, rfl, h2, rfl⟩
          · rw [List.length_eraseIdx_of_lt (by omega)]; omega
          · have hpop := hPopAt_nat h1 (by omega)
            simp only [mkFn, sCons, sSet, sPar, sUnp, sIf, sRet, sRetN, sDrop, sNil, sBrk, sCnt, bndS, bnd, rt, opt, fVar, fVal, fBin, fUn, rd1, rd2, Rv.rd, Sl.rd, fD, fzM, Rv.fz, fCons, fNil, dCons, dNil, aCons, aNil, aBoxN, aBox, fCall, resolve, boxes, bxpos, wb, fNm, rdAll, fTup, fLst, hAdd, hSub, hInt2, hMulL, hLt, hLe, hGt, hGe, hNeg, hAbs, hLen, hInt1, hMax2, hMin2, hIx, fSl, oNone, oSome, hSl, fB, toB, fAnd, fOr, fNot, fAndV, fOrV, fNotV, fChain, kName, kTup, kCons, kNil, slOk, sStore, fMt, mtGo, hApp, hFdiv, hMod, hDivmod, outs, List.length_cons, List.length_nil, List.getElem?_cons_zero, List.getElem?_cons_succ, List.getElem?_nil, List.set_cons_zero, List.set_cons_succ, List.replicate_succ, List.replicate_zero, List.cons_append, List.nil_append, Option.bind_some, Option.map_some, cond_true, cond_false, ite_true, ite_false, Nat.reduceAdd, Nat.reduceSub, Nat.reduceEqDiff, Nat.reduceLeDiff, if_true, if_false, reduceIte, atI_n0, atI_n1, atI_n2, atI_n3, ixN_10, ixN_20, ixN_21, hEq_int, hNe_int, Bool.not_true, decide_true, decide_false, hTuple, sTryK, sRaise, Bool.false_eq_true, Bool.not_false, sz0, sz1, sz2, sz3, sz4, sz5, sz6, sz7, sz8, List.length_map, et, ew, hpop, hz, map_eraseIdx, List.map_append, List.map_cons, List.map_nil])
    N _ ⟨n, upto N, [], upto_length N, by rw [List.append_nil], rfl⟩
  exact ⟨n', order, hp, e⟩
theorem change_ex (n : Int) (most : Nat) (h1 : 1 ≤ most) (h2 : most ≤ 900) (roots : List Int) (hne : roots ≠ []) (hlr : roots.length ≤ 900) (br : ∀ r ∈ roots, Bt 60 r) : ∃ (n' r : Int) (longs : List D) (order : List Int), r ∈ roots ∧ 1 ≤ longs.length ∧ longs.length ≤ most ∧ (∀ x ∈ longs, GoodL r x) ∧ order.Perm (upto longs.length) ∧
    d_change [.own 1 (.list [.int n]), .dat (.int (most : Nat)), .dat (.list (roots.map PyData.int))] = some (.inr (false, chD r longs order), [.own 1 (.list [.int n']), .no, .no]) := by
  obtain ⟨n1, d1, hd1, et1⟩ := take_nat n (m := roots.length) (List.length_pos_iff.mpr hne) (by omega)
  obtain ⟨n2, d2, hd2, et2⟩ := take_nat n1 (m := most) (by omega) (by omega)
  have hr : (roots.map PyData.int)[d1]? = some (.int roots[d1]) := by rw [List.getElem?_map, List.getElem?_eq_getElem hd1]; rfl
  obtain ⟨n3, longs, hl1, hl2, el⟩ := longs_ex (.dat (.int (most : Nat))) (.dat (.list (roots.map PyData.int))) roots[d1] (br _ (List.getElem_mem hd1)) .no (1 + d2) (by omega) n2
  obtain ⟨n4, d4, hd4, et4⟩ := take_nat n3 (m := 4) (by omega) (by omega)
  obtain ⟨n5, order, hp, eo⟩ := order_ex (.dat (.int (most : Nat))) (.dat (.list (roots.map PyData.int))) (.dat (.int roots[d1])) (.dat (.int ((1 + d2 : Nat)))) (.dat (.tuple longs)) (d4 : Nat) (1 + d2) (by omega) n4
  refine ⟨n5, roots[d1], longs, order, List.getElem_mem hd1, by omega, by omega, hl2, by rw [hl1]; exact hp, ?_⟩
  have em : (1 : Int) + (d2 : Nat) = ((1 + d2 : Nat) : Int) := by omega
  unfold d_change
  refine mkFn_ret rfl ?_ (fs := [.own 1 (.list [.int n5]), .dat (.int (most : Nat)), .dat (.list (roots.map PyData.int)), .dat (.int roots[d1]), .dat (.int ((1 + d2 : Nat))), .dat (.tuple longs), .own 0 (.list []), .own 0 (.list (order.map PyData.int)), .dat (.int (d4 : Nat)), .no])
  rw [sCons_nx (fs1 := [.own 1 (.list [.int n1]), .dat (.int (most : Nat)), .dat (.list (roots.map PyData.int)), .dat (.int roots[d1]), .no, .no, .no, .no, .no, .no]) (by simp only [mkFn, sCons, sSet, sPar, sUnp, sIf, sRet, sRetN, sDrop, sNil, sBrk, sCnt, bndS, bnd, rt, opt, fVar, fVal, fBin, fUn, rd1, rd2, Rv.rd, Sl.rd, fD, fzM, Rv.fz, fCons, fNil, dCons, dNil, aCons, aNil, aBoxN, aBox, fCall, resolve, boxes, bxpos, wb, fNm, rdAll, fTup, fLst, hAdd, hSub, hInt2, hMulL, hLt, hLe, hGt, hGe, hNeg, hAbs, hLen, hInt1, hMax2, hMin2, hIx, fSl, oNone, oSome, hSl, fB, toB, fAnd, fOr, fNot, fAndV, fOrV, fNotV, fChain, kName, kTup, kCons, kNil, slOk, sStore, fMt, mtGo, hApp, hFdiv, hMod, hDivmod, outs, List.length_cons, List.length_nil, List.getElem?_cons_zero, List.getElem?_cons_succ, List.getElem?_nil, List.set_cons_zero, List.set_cons_succ, List.replicate_succ, List.replicate_zero, List.cons_append, List.nil_append, Option.bind_some, Option.map_some, cond_true, cond_false, ite_true, ite_false, Nat.reduceAdd, Nat.reduceSub, Nat.reduceEqDiff, Nat.reduceLeDiff, if_true, if_false, reduceIte, atI_n0, atI_n1, atI_n2, atI_n3, ixN_10, ixN_20, ixN_21, hEq_int, hNe_int, Bool.not_true, decide_true, decide_false, hTuple, sTryK, sRaise, Bool.false_eq_true, Bool.not_false, sz0, sz1, sz2, sz3, sz4, sz5, sz6, sz7, sz8, List.length_map, et1, atI_natE, hr])]
  rw [sCons_nx (fs1 := [.own 1 (.list [.int n2]), .dat (.int (most : Nat)), .dat (.list (roots.map PyData.int)), .dat (.int roots[d1]), .dat (.int ((1 + d2 : Nat))), .no, .no, .no, .no, .no]) (by simp only [mkFn, sCons, sSet, sPar, sUnp, sIf, sRet, sRetN, sDrop, sNil, sBrk, sCnt, bndS, bnd, rt, opt, fVar, fVal, fBin, fUn, rd1, rd2, Rv.rd, Sl.rd, fD, fzM, Rv.fz, fCons, fNil, dCons, dNil, aCons, aNil, aBoxN, aBox, fCall, resolve, boxes, bxpos, wb, fNm, rdAll, fTup, fLst, hAdd, hSub, hInt2, hMulL, hLt, hLe, hGt, hGe, hNeg, hAbs, hLen, hInt1, hMax2, hMin2, hIx, fSl, oNone, oSome, hSl, fB, toB, fAnd, fOr, fNot, fAndV, fOrV, fNotV, fChain, kName, kTup, kCons, kNil, slOk, sStore, fMt, mtGo, hApp, hFdiv, hMod, hDivmod, outs, List.length_cons, List.length_nil, List.getElem?_cons_zero, List.getElem?_cons_succ, List.getElem?_nil, List.set_cons_zero, List.set_cons_succ, List.replicate_succ, List.replicate_zero, List.cons_append, List.nil_append, Option.bind_some, Option.map_some, cond_true, cond_false, ite_true, ite_false, Nat.reduceAdd, Nat.reduceSub, Nat.reduceEqDiff, Nat.reduceLeDiff, if_true, if_false, reduceIte, atI_n0, atI_n1, atI_n2, atI_n3, ixN_10, ixN_20, ixN_21, hEq_int, hNe_int, Bool.not_true, decide_true, decide_false, hTuple, sTryK, sRaise, Bool.false_eq_true, Bool.not_false, sz0, sz1, sz2, sz3, sz4, sz5, sz6, sz7, sz8, et2, em])]
  rw [sCons_nx (fs1 := [.own 1 (.list [.int n3]), .dat (.int (most : Nat)), .dat (.list (roots.map PyData.int)), .dat (.int roots[d1]), .dat (.int ((1 + d2 : Nat))), .dat (.tuple longs), .no, .no, .no, .no]) (by
    generalize fLc [9] (fiR1 (dCons (fVar 4) dNil)) (kName 9) tYesF (fCall d_long (aBoxN 0 (aCons (fVar 3) aNil))) = E at el ⊢
    simp only [mkFn, sCons, sSet, sPar, sUnp, sIf, sRet, sRetN, sDrop, sNil, sBrk, sCnt, bndS, bnd, rt, opt, fVar, fVal, fBin, fUn, rd1, rd2, Rv.rd, Sl.rd, fD, fzM, Rv.fz, fCons, fNil, dCons, dNil, aCons, aNil, aBoxN, aBox, fCall, resolve, boxes, bxpos, wb, fNm, rdAll, fTup, fLst, hAdd, hSub, hInt2, hMulL, hLt, hLe, hGt, hGe, hNeg, hAbs, hLen, hInt1, hMax2, hMin2, hIx, fSl, oNone, oSome, hSl, fB, toB, fAnd, fOr, fNot, fAndV, fOrV, fNotV, fChain, kName, kTup, kCons, kNil, slOk, sStore, fMt, mtGo, hApp, hFdiv, hMod, hDivmod, outs, List.length_cons, List.length_nil, List.getElem?_cons_zero, List.getElem?_cons_succ, List.getElem?_nil, List.set_cons_zero, List.set_cons_succ, List.replicate_succ, List.replicate_zero, List.cons_append, List.nil_append, Option.bind_some, Option.map_some, cond_true, cond_false, ite_true, ite_false, Nat.reduceAdd, Nat.reduceSub, Nat.reduceEqDiff, Nat.reduceLeDiff, if_true, if_false, reduceIte, atI_n0, atI_n1, atI_n2, atI_n3, ixN_10, ixN_20, ixN_21, hEq_int, hNe_int, Bool.not_true, decide_true, decide_false, hTuple, sTryK, sRaise, Bool.false_eq_true, Bool.not_false, sz0, sz1, sz2, sz3, sz4, sz5, sz6, sz7, sz8, el])]
  rw [sCons_nx (fs1 := [.own 1 (.list [.int n3]), .dat (.int (most : Nat)), .dat (.list (roots.map PyData.int)), .dat (.int roots[d1]), .dat (.int ((1 + d2 : Nat))), .dat (.tuple longs), .own 0 (.list ((upto (1 + d2)).map PyData.int)), .no, .no, .no]) (by simp only [mkFn, sCons, sSet, sPar, sUnp, sIf, sRet, sRetN, sDrop, sNil, sBrk, sCnt, bndS, bnd, rt, opt, fVar, fVal, fBin, fUn, rd1, rd2, Rv.rd, Sl.rd, fD, fzM, Rv.fz, fCons, fNil, dCons, dNil, aCons, aNil, aBoxN, aBox, fCall, resolve, boxes, bxpos, wb, fNm, rdAll, fTup, fLst, hAdd, hSub, hInt2, hMulL, hLt, hLe, hGt, hGe, hNeg, hAbs, hLen, hInt1, hMax2, hMin2, hIx, fSl, oNone, oSome, hSl, fB, toB, fAnd, fOr, fNot, fAndV, fOrV, fNotV, fChain, kName, kTup, kCons, kNil, slOk, sStore, fMt, mtGo, hApp, hFdiv, hMod, hDivmod, outs, List.length_cons, List.length_nil, List.getElem?_cons_zero, List.getElem?_cons_succ, List.getElem?_nil, List.set_cons_zero, List.set_cons_succ, List.replicate_succ, List.replicate_zero, List.cons_append, List.nil_append, Option.bind_some, Option.map_some, cond_true, cond_false, ite_true, ite_false, Nat.reduceAdd, Nat.reduceSub, Nat.reduceEqDiff, Nat.reduceLeDiff, if_true, if_false, reduceIte, atI_n0, atI_n1, atI_n2, atI_n3, ixN_10, ixN_20, ixN_21, hEq_int, hNe_int, Bool.not_true, decide_true, decide_false, hTuple, sTryK, sRaise, Bool.false_eq_true, Bool.not_false, sz0, sz1, sz2, sz3, sz4, sz5, sz6, sz7, sz8, hLR1_nat (show 1 + d2 ≤ 1000 by omega)])]
  rw [sCons_nx (fs1 := [.own 1 (.list [.int n3]), .dat (.int (most : Nat)), .dat (.list (roots.map PyData.int)), .dat (.int roots[d1]), .dat (.int ((1 + d2 : Nat))), .dat (.tuple longs), .own 0 (.list ((upto (1 + d2)).map PyData.int)), .own 0 (.list []), .no, .no]) (by simp only [mkFn, sCons, sSet, sPar, sUnp, sIf, sRet, sRetN, sDrop, sNil, sBrk, sCnt, bndS, bnd, rt, opt, fVar, fVal, fBin, fUn, rd1, rd2, Rv.rd, Sl.rd, fD, fzM, Rv.fz, fCons, fNil, dCons, dNil, aCons, aNil, aBoxN, aBox, fCall, resolve, boxes, bxpos, wb, fNm, rdAll, fTup, fLst, hAdd, hSub, hInt2, hMulL, hLt, hLe, hGt, hGe, hNeg, hAbs, hLen, hInt1, hMax2, hMin2, hIx, fSl, oNone, oSome, hSl, fB, toB, fAnd, fOr, fNot, fAndV, fOrV, fNotV, fChain, kName, kTup, kCons, kNil, slOk, sStore, fMt, mtGo, hApp, hFdiv, hMod, hDivmod, outs, List.length_cons, List.length_nil, List.getElem?_cons_zero, List.getElem?_cons_succ, List.getElem?_nil, List.set_cons_zero, List.set_cons_succ, List.replicate_succ, List.replicate_zero, List.cons_append, List.nil_append, Option.bind_some, Option.map_some, cond_true, cond_false, ite_true, ite_false, Nat.reduceAdd, Nat.reduceSub, Nat.reduceEqDiff, Nat.reduceLeDiff, if_true, if_false, reduceIte, atI_n0, atI_n1, atI_n2, atI_n3, ixN_10, ixN_20, ixN_21, hEq_int, hNe_int, Bool.not_true, decide_true, decide_false, hTuple, sTryK, sRaise, Bool.false_eq_true, Bool.not_false, sz0, sz1, sz2, sz3, sz4, sz5, sz6, sz7, sz8])]
  rw [sCons_nx (fs1 := [.own 1 (.list [.int n4]), .dat (.int (most : Nat)), .dat (.list (roots.map PyData.int)), .dat (.int roots[d1]), .dat (.int ((1 + d2 : Nat))), .dat (.tuple longs), .own 0 (.list ((upto (1 + d2)).map PyData.int)), .own 0 (.list []), .dat (.int (d4 : Nat)), .no]) (by
    have e4 : d_take [.own 1 (.list [.int n3]), .dat (.int 4)] = _ := et4
    simp only [mkFn, sCons, sSet, sPar, sUnp, sIf, sRet, sRetN, sDrop, sNil, sBrk, sCnt, bndS, bnd, rt, opt, fVar, fVal, fBin, fUn, rd1, rd2, Rv.rd, Sl.rd, fD, fzM, Rv.fz, fCons, fNil, dCons, dNil, aCons, aNil, aBoxN, aBox, fCall, resolve, boxes, bxpos, wb, fNm, rdAll, fTup, fLst, hAdd, hSub, hInt2, hMulL, hLt, hLe, hGt, hGe, hNeg, hAbs, hLen, hInt1, hMax2, hMin2, hIx, fSl, oNone, oSome, hSl, fB, toB, fAnd, fOr, fNot, fAndV, fOrV, fNotV, fChain, kName, kTup, kCons, kNil, slOk, sStore, fMt, mtGo, hApp, hFdiv, hMod, hDivmod, outs, List.length_cons, List.length_nil, List.getElem?_cons_zero, List.getElem?_cons_succ, List.getElem?_nil, List.set_cons_zero, List.set_cons_succ, List.replicate_succ, List.replicate_zero, List.cons_append, List.nil_append, Option.bind_some, Option.map_some, cond_true, cond_false, ite_true, ite_false, Nat.reduceAdd, Nat.reduceSub, Nat.reduceEqDiff, Nat.reduceLeDiff, if_true, if_false, reduceIte, atI_n0, atI_n1, atI_n2, atI_n3, ixN_10, ixN_20, ixN_21, hEq_int, hNe_int, Bool.not_true, decide_true, decide_false, hTuple, sTryK, sRaise, Bool.false_eq_true, Bool.not_false, sz0, sz1, sz2, sz3, sz4, sz5, sz6, sz7, sz8, e4])]
  rw [sCons_nx (fs1 := [.own 1 (.list [.int n5]), .dat (.int (most : Nat)), .dat (.list (roots.map PyData.int)), .dat (.int roots[d1]), .dat (.int ((1 + d2 : Nat))), .dat (.tuple longs), .own 0 (.list []), .own 0 (.list (order.map PyData.int)), .dat (.int (d4 : Nat)), .no]) eo]
  simp only [mkFn, sCons, sSet, sPar, sUnp, sIf, sRet, sRetN, sDrop, sNil, sBrk, sCnt, bndS, bnd, rt, opt, fVar, fVal, fBin, fUn, rd1, rd2, Rv.rd, Sl.rd, fD, fzM, Rv.fz, fCons, fNil, dCons, dNil, aCons, aNil, aBoxN, aBox, fCall, resolve, boxes, bxpos, wb, fNm, rdAll, fTup, fLst, hAdd, hSub, hInt2, hMulL, hLt, hLe, hGt, hGe, hNeg, hAbs, hLen, hInt1, hMax2, hMin2, hIx, fSl, oNone, oSome, hSl, fB, toB, fAnd, fOr, fNot, fAndV, fOrV, fNotV, fChain, kName, kTup, kCons, kNil, slOk, sStore, fMt, mtGo, hApp, hFdiv, hMod, hDivmod, outs, List.length_cons, List.length_nil, List.getElem?_cons_zero, List.getElem?_cons_succ, List.getElem?_nil, List.set_cons_zero, List.set_cons_succ, List.replicate_succ, List.replicate_zero, List.cons_append, List.nil_append, Option.bind_some, Option.map_some, cond_true, cond_false, ite_true, ite_false, Nat.reduceAdd, Nat.reduceSub, Nat.reduceEqDiff, Nat.reduceLeDiff, if_true, if_false, reduceIte, atI_n0, atI_n1, atI_n2, atI_n3, ixN_10, ixN_20, ixN_21, hEq_int, hNe_int, Bool.not_true, decide_true, decide_false, hTuple, sTryK, sRaise, Bool.false_eq_true, Bool.not_false, sz0, sz1, sz2, sz3, sz4, sz5, sz6, sz7, sz8]
/-! ### small lists -/
theorem upto_mem {n : Nat} {x : Int} : x ∈ upto n ↔ 0 ≤ x ∧ x < n := by
  unfold upto
  constructor
  · intro h
    obtain ⟨i, h1, rfl⟩ := List.mem_map.mp h
    have := List.mem_range.mp h1
    omega
  · intro h
    exact List.mem_map.mpr ⟨x.toNat, List.mem_range.mpr (by omega), by omega⟩
theorem upto_rising (n : Nat) : (upto n).Pairwise (· < ·) := by
  unfold upto
  rw [List.pairwise_map]
  exact (List.pairwise_lt_range (n := n)).imp fun h => by omega
theorem upto_nodup (n : Nat) : (upto n).Nodup := (upto_rising n).imp fun h => by omega
theorem ints_inj : ∀ {l m : List Int}, l.map PyData.int = m.map PyData.int → l = m
  | [], [], _ => rfl
  | [], _ :: _, h => by cases h
  | _ :: _, [], h => by cases h
  | a :: l, b :: m, h => by
    rw [List.map_cons, List.map_cons] at h
    injection h with h1 h2
    injection h1 with h1
    rw [h1, ints_inj h2]
theorem hEq_ints (l m : List Int) : hEq (.list (l.map PyData.int)) (.list (m.map PyData.int)) = some (.val (.bool (decide (l = m)))) := by
  by_cases h : l = m
  · subst h
    rw [hEq_t (sh_ints _) (sh_ints _) (eqv_same (noB_ints _)), decide_eq_true rfl]
  · have : PyData.list (l.map PyData.int) ≠ .list (m.map PyData.int) := fun q => h (ints_inj (by simpa using q))
    rw [hEq_f (sh_ints _) (sh_ints _) (eqv_ne (noB_ints _) (noB_ints _) this), decide_eq_false h]
theorem len_le {n : Nat} (h : n ≤ 1000) : n ≤ sizeLine := szl n (by omega)
theorem len900 (l : List Int) (h : l.length ≤ 900) : ([] : List D).length + (l.map PyData.int).length ≤ sizeLine := by
  rw [List.length_nil, List.length_map]
  exact len_le (by omega)
theorem filter_ints (p : Int → Bool) (q : D → Bool) (l : List Int) (h : ∀ x ∈ l, q (.int x) = p x) : ((l.map PyData.int).filter q).map id = (l.filter p).map PyData.int := by
  rw [List.map_id]
  induction l with
  | nil => rfl
  | cons x l ih =>
    rw [List.map_cons]
    have hx := h x List.mem_cons_self
    cases e : p x with
    | true => rw [List.filter_cons_of_pos (by rw [hx, e]), List.filter_cons_of_pos e, List.map_cons, ih fun y hy => h y (List.mem_cons_of_mem _ hy)]
    | false => rw [List.filter_cons_of_neg (by rw [hx, e]; decide), List.filter_cons_of_neg (by rw [e]; decide), ih fun y hy => h y (List.mem_cons_of_mem _ hy)]
theorem upto_add (a b : Nat) : upto (a + b) = upto a ++ (upto b).map (fun x => x + (a : Int)) := by
  unfold upto
  rw [List.range_add, List.map_append, List.map_map, List.map_map]
  congr 1
  refine List.map_congr_left fun i _ => ?_
  simp only [Function.comp_apply]
  omega
/-! ### the program's numbers; lowest terms are one of a kind -/
theorem gcd_step (m o : Int) : Int.gcd m o = Int.gcd o (m.fmod o) := by
  have h := Int.gcd_add_mul_right_right o (m.fmod o) (m.fdiv o)
  have e : m.fmod o + m.fdiv o * o = m := by rw [Int.mul_comm]; exact Int.fmod_add_mul_fdiv m o
  rw [e] at h
  rw [Int.gcd_comm, h]
theorem fmod_small (m : Int) {o : Int} (h : o ≠ 0) : (m.fmod o).natAbs < o.natAbs := by
  rcases Int.lt_or_lt_of_ne h with h | h
  · have e := Int.neg_fmod_neg (-m) (-o)
    rw [Int.neg_neg, Int.neg_neg] at e
    have h1 := Int.fmod_nonneg_of_pos (-m) (show (0 : Int) < -o by omega)
    have h2 := Int.fmod_lt_of_pos (-m) (show (0 : Int) < -o by omega)
    omega
  · have h1 := Int.fmod_nonneg_of_pos m h
    have h2 := Int.fmod_lt_of_pos m h
    omega
theorem div_loop : ∀ (k : Nat) (o m : Int), o.natAbs ≤ k → ∃ g : Int, g.natAbs = Int.gcd m o ∧ sWhile (fB (fBin hNe (fVar 1) (fVal (.int 0)))) (sPar 0 1 (dCons (fVar 1) (dCons (fBin hMod (fVar 0) (fVar 1)) dNil))) [.dat (.int m), .dat (.int o)] = some (.nx, [.dat (.int g), .dat (.int 0)])
  | k, o, m, hk => by
    by_cases h : o = 0
    · subst h
      refine ⟨m, by rw [Int.gcd_zero_right], ?_⟩
      have e0 : decide ((0 : Int) = 0) = true := rfl
      exact sWhile_stop (by simp only [mkFn, sCons, sSet, sPar, sUnp, sIf, sRet, sRetN, sDrop, sNil, sBrk, sCnt, bndS, bnd, rt, opt, fVar, fVal, fBin, fUn, rd1, rd2, Rv.rd, Sl.rd, fD, fzM, Rv.fz, fCons, fNil, dCons, dNil, aCons, aNil, aBoxN, aBox, fCall, resolve, boxes, bxpos, wb, fNm, rdAll, fTup, fLst, hAdd, hSub, hInt2, hMulL, hLt, hLe, hGt, hGe, hNeg, hAbs, hLen, hInt1, hMax2, hMin2, hIx, fSl, oNone, oSome, hSl, fB, toB, fAnd, fOr, fNot, fAndV, fOrV, fNotV, fChain, kName, kTup, kCons, kNil, slOk, sStore, fMt, mtGo, hApp, hFdiv, hMod, hDivmod, outs, List.length_cons, List.length_nil, List.getElem?_cons_zero, List.getElem?_cons_succ, List.getElem?_nil, List.set_cons_zero, List.set_cons_succ, List.replicate_succ, List.replicate_zero, List.cons_append, List.nil_append, Option.bind_some, Option.map_some, cond_true, cond_false, ite_true, ite_false, Nat.reduceAdd, Nat.reduceSub, Nat.reduceEqDiff, Nat.reduceLeDiff, if_true, if_false, reduceIte, atI_n0, atI_n1, atI_n2, atI_n3, ixN_10, ixN_20, ixN_21, hEq_int, hNe_int, Bool.not_true, decide_true, decide_false, hTuple, sTryK, sRaise, Bool.false_eq_true, Bool.not_false, sz0, sz1, sz2, sz3, sz4, sz5, sz6, sz7, sz8])
    · have hs := fmod_small m h
      match k, hk with
      | 0, hk => omega
      | k + 1, hk =>
        obtain ⟨g, h1, h2⟩ := div_loop k (m.fmod o) o (by omega)
        refine ⟨g, by rw [h1, ← gcd_step], ?_⟩
        have e1 : decide (o = 0) = false := decide_eq_false h
        have e2 : (o != 0) = true := by simpa using h
        rw [sWhile_turn (fs1 := [.dat (.int m), .dat (.int o)]) (fs2 := [.dat (.int o), .dat (.int (m.fmod o))]) (by simp only [mkFn, sCons, sSet, sPar, sUnp, sIf, sRet, sRetN, sDrop, sNil, sBrk, sCnt, bndS, bnd, rt, opt, fVar, fVal, fBin, fUn, rd1, rd2, Rv.rd, Sl.rd, fD, fzM, Rv.fz, fCons, fNil, dCons, dNil, aCons, aNil, aBoxN, aBox, fCall, resolve, boxes, bxpos, wb, fNm, rdAll, fTup, fLst, hAdd, hSub, hInt2, hMulL, hLt, hLe, hGt, hGe, hNeg, hAbs, hLen, hInt1, hMax2, hMin2, hIx, fSl, oNone, oSome, hSl, fB, toB, fAnd, fOr, fNot, fAndV, fOrV, fNotV, fChain, kName, kTup, kCons, kNil, slOk, sStore, fMt, mtGo, hApp, hFdiv, hMod, hDivmod, outs, List.length_cons, List.length_nil, List.getElem?_cons_zero, List.getElem?_cons_succ, List.getElem?_nil, List.set_cons_zero, List.set_cons_succ, List.replicate_succ, List.replicate_zero, List.cons_append, List.nil_append, Option.bind_some, Option.map_some, cond_true, cond_false, ite_true, ite_false, Nat.reduceAdd, Nat.reduceSub, Nat.reduceEqDiff, Nat.reduceLeDiff, if_true, if_false, reduceIte, atI_n0, atI_n1, atI_n2, atI_n3, ixN_10, ixN_20, ixN_21, hEq_int, hNe_int, Bool.not_true, decide_true, decide_false, hTuple, sTryK, sRaise, Bool.false_eq_true, Bool.not_false, sz0, sz1, sz2, sz3, sz4, sz5, sz6, sz7, sz8, e1]) (by simp only [mkFn, sCons, sSet, sPar, sUnp, sIf, sRet, sRetN, sDrop, sNil, sBrk, sCnt, bndS, bnd, rt, opt, fVar, fVal, fBin, fUn, rd1, rd2, Rv.rd, Sl.rd, fD, fzM, Rv.fz, fCons, fNil, dCons, dNil, aCons, aNil, aBoxN, aBox, fCall, resolve, boxes, bxpos, wb, fNm, rdAll, fTup, fLst, hAdd, hSub, hInt2, hMulL, hLt, hLe, hGt, hGe, hNeg, hAbs, hLen, hInt1, hMax2, hMin2, hIx, fSl, oNone, oSome, hSl, fB, toB, fAnd, fOr, fNot, fAndV, fOrV, fNotV, fChain, kName, kTup, kCons, kNil, slOk, sStore, fMt, mtGo, hApp, hFdiv, hMod, hDivmod, outs, List.length_cons, List.length_nil, List.getElem?_cons_zero, List.getElem?_cons_succ, List.getElem?_nil, List.set_cons_zero, List.set_cons_succ, List.replicate_succ, List.replicate_zero, List.cons_append, List.nil_append, Option.bind_some, Option.map_some, cond_true, cond_false, ite_true, ite_false, Nat.reduceAdd, Nat.reduceSub, Nat.reduceEqDiff, Nat.reduceLeDiff, if_true, if_false, reduceIte, atI_n0, atI_n1, atI_n2, atI_n3, ixN_10, ixN_20, ixN_21, hEq_int, hNe_int, Bool.not_true, decide_true, decide_false, hTuple, sTryK, sRaise, Bool.false_eq_true, Bool.not_false, sz0, sz1, sz2, sz3, sz4, sz5, sz6, sz7, sz8, e2])]
        exact h2
theorem divisor_eq (a b : Int) : d_p_divisor [.dat (.int a), .dat (.int b)] = some (.inr (false, .int (Int.gcd a b : Nat)), [.no, .no]) := by
  obtain ⟨g, h1, h2⟩ := div_loop b.natAbs b a (Nat.le_refl _)
  unfold d_p_divisor
  refine mkFn_ret (fs := [.dat (.int g), .dat (.int 0)]) rfl ?_
  show sCons _ _ [.dat (.int a), .dat (.int b)] = _
  rw [sCons_nx (fs1 := [.dat (.int g), .dat (.int 0)]) h2]
  simp only [mkFn, sCons, sSet, sPar, sUnp, sIf, sRet, sRetN, sDrop, sNil, sBrk, sCnt, bndS, bnd, rt, opt, fVar, fVal, fBin, fUn, rd1, rd2, Rv.rd, Sl.rd, fD, fzM, Rv.fz, fCons, fNil, dCons, dNil, aCons, aNil, aBoxN, aBox, fCall, resolve, boxes, bxpos, wb, fNm, rdAll, fTup, fLst, hAdd, hSub, hInt2, hMulL, hLt, hLe, hGt, hGe, hNeg, hAbs, hLen, hInt1, hMax2, hMin2, hIx, fSl, oNone, oSome, hSl, fB, toB, fAnd, fOr, fNot, fAndV, fOrV, fNotV, fChain, kName, kTup, kCons, kNil, slOk, sStore, fMt, mtGo, hApp, hFdiv, hMod, hDivmod, outs, List.length_cons, List.length_nil, List.getElem?_cons_zero, List.getElem?_cons_succ, List.getElem?_nil, List.set_cons_zero, List.set_cons_succ, List.replicate_succ, List.replicate_zero, List.cons_append, List.nil_append, Option.bind_some, Option.map_some, cond_true, cond_false, ite_true, ite_false, Nat.reduceAdd, Nat.reduceSub, Nat.reduceEqDiff, Nat.reduceLeDiff, if_true, if_false, reduceIte, atI_n0, atI_n1, atI_n2, atI_n3, ixN_10, ixN_20, ixN_21, hEq_int, hNe_int, Bool.not_true, decide_true, decide_false, hTuple, sTryK, sRaise, Bool.false_eq_true, Bool.not_false, sz0, sz1, sz2, sz3, sz4, sz5, sz6, sz7, sz8, abs_nat, h1]
theorem lowest_eq {a b c : Int} (hc : 0 < c) (hb : Bt 9000 c) : d_p_lowest [.dat (.int a), .dat (.int b), .dat (.int c)] = some (.inr (false, lowD a b c), [.no, .no, .no]) := by
  have g0 : ((g3 a b c : Nat) : Int) ≠ 0 := by have := g3_pos (a := a) (b := b) hc; omega
  have e1 : ∀ x : Int, divOk x (g3 a b c : Nat) = true := fun x => divOk_of g0 (g3_bits hc hb)
  have e2 : decide (c < 0) = false := decide_eq_false (by omega)
  have e3 : Int.gcd ((Int.gcd a b : Nat) : Int) c = g3 a b c := rfl
  simp only [d_p_lowest, mkFn, sCons, sSet, sPar, sUnp, sIf, sRet, sRetN, sDrop, sNil, sBrk, sCnt, bndS, bnd, rt, opt, fVar, fVal, fBin, fUn, rd1, rd2, Rv.rd, Sl.rd, fD, fzM, Rv.fz, fCons, fNil, dCons, dNil, aCons, aNil, aBoxN, aBox, fCall, resolve, boxes, bxpos, wb, fNm, rdAll, fTup, fLst, hAdd, hSub, hInt2, hMulL, hLt, hLe, hGt, hGe, hNeg, hAbs, hLen, hInt1, hMax2, hMin2, hIx, fSl, oNone, oSome, hSl, fB, toB, fAnd, fOr, fNot, fAndV, fOrV, fNotV, fChain, kName, kTup, kCons, kNil, slOk, sStore, fMt, mtGo, hApp, hFdiv, hMod, hDivmod, outs, List.length_cons, List.length_nil, List.getElem?_cons_zero, List.getElem?_cons_succ, List.getElem?_nil, List.set_cons_zero, List.set_cons_succ, List.replicate_succ, List.replicate_zero, List.cons_append, List.nil_append, Option.bind_some, Option.map_some, cond_true, cond_false, ite_true, ite_false, Nat.reduceAdd, Nat.reduceSub, Nat.reduceEqDiff, Nat.reduceLeDiff, if_true, if_false, reduceIte, atI_n0, atI_n1, atI_n2, atI_n3, ixN_10, ixN_20, ixN_21, hEq_int, hNe_int, Bool.not_true, decide_true, decide_false, hTuple, sTryK, sRaise, Bool.false_eq_true, Bool.not_false, sz0, sz1, sz2, sz3, sz4, sz5, sz6, sz7, sz8, divisor_eq, e2, e3, e1, lowD]
theorem p_plus_eq {a b c d e f : Int} (r : D) (hc : 0 < c) (hf : 0 < f) (ba : Bt 4000 a) (bb : Bt 4000 b) (bc : Bt 4000 c) (bd : Bt 4000 d) (be : Bt 4000 e) (bf : Bt 4000 f) :
    d_p_plus [.dat r, .dat (tup3 a b c), .dat (tup3 d e f)] = some (.inr (false, lowD (a * f + d * c) (b * f + e * c) (c * f)), [.no, .no, .no]) := by
  have e0 := lowest_eq (a := a * f + d * c) (b := b * f + e * c) (c := c * f) (Int.mul_pos hc hf) ((bc.mul bf).mono (by decide))
  simp only [d_p_plus, mkFn, sCons, sSet, sPar, sUnp, sIf, sRet, sRetN, sDrop, sNil, sBrk, sCnt, bndS, bnd, rt, opt, fVar, fVal, fBin, fUn, rd1, rd2, Rv.rd, Sl.rd, fD, fzM, Rv.fz, fCons, fNil, dCons, dNil, aCons, aNil, aBoxN, aBox, fCall, resolve, boxes, bxpos, wb, fNm, rdAll, fTup, fLst, hAdd, hSub, hInt2, hMulL, hLt, hLe, hGt, hGe, hNeg, hAbs, hLen, hInt1, hMax2, hMin2, hIx, fSl, oNone, oSome, hSl, fB, toB, fAnd, fOr, fNot, fAndV, fOrV, fNotV, fChain, kName, kTup, kCons, kNil, slOk, sStore, fMt, mtGo, hApp, hFdiv, hMod, hDivmod, outs, List.length_cons, List.length_nil, List.getElem?_cons_zero, List.getElem?_cons_succ, List.getElem?_nil, List.set_cons_zero, List.set_cons_succ, List.replicate_succ, List.replicate_zero, List.cons_append, List.nil_append, Option.bind_some, Option.map_some, cond_true, cond_false, ite_true, ite_false, Nat.reduceAdd, Nat.reduceSub, Nat.reduceEqDiff, Nat.reduceLeDiff, if_true, if_false, reduceIte, atI_n0, atI_n1, atI_n2, atI_n3, ixN_10, ixN_20, ixN_21, hEq_int, hNe_int, Bool.not_true, decide_true, decide_false, hTuple, sTryK, sRaise, Bool.false_eq_true, Bool.not_false, sz0, sz1, sz2, sz3, sz4, sz5, sz6, sz7, sz8, ba.ok bf (by decide), bd.ok bc (by decide), bb.ok bf (by decide), be.ok bc (by decide), bc.ok bf (by decide), e0]
theorem g3_mul (a b c : Int) (k : Int) : g3 (a * k) (b * k) (c * k) = g3 a b c * k.natAbs := by
  unfold g3
  rw [Int.natAbs_mul, Int.natAbs_mul, Int.natAbs_mul, Nat.gcd_mul_right, Nat.gcd_mul_right]
theorem canon_dvd {a b c a' b' c' : Int} (g : g3 a b c = 1) (h : a * c' = a' * c) (h2 : b * c' = b' * c) : c.natAbs ∣ c'.natAbs := by
  have e := g3_mul a b c c'
  rw [g, Nat.one_mul] at e
  rw [← e]
  unfold g3
  refine Nat.dvd_gcd (Nat.dvd_gcd ?_ ?_) ?_
  · rw [h, Int.natAbs_mul]; exact Nat.dvd_mul_left _ _
  · rw [h2, Int.natAbs_mul]; exact Nat.dvd_mul_left _ _
  · rw [Int.natAbs_mul]; exact Nat.dvd_mul_right _ _
/-- numbers in lowest terms that are worth the same are the same -/
theorem canon {a b c a' b' c' : Int} (hc : 0 < c) (hc' : 0 < c') (g : g3 a b c = 1) (g' : g3 a' b' c' = 1) (h : a * c' = a' * c) (h2 : b * c' = b' * c) : a = a' ∧ b = b' ∧ c = c' := by
  have d1 := canon_dvd g h h2
  have d2 := canon_dvd g' h.symm h2.symm
  have e := Nat.dvd_antisymm d1 d2
  have ec : c = c' := by omega
  subst ec
  exact ⟨Int.eq_of_mul_eq_mul_right (by omega) h, Int.eq_of_mul_eq_mul_right (by omega) h2, rfl⟩
theorem low_eq {A B C a b c : Int} (hC : 0 < C) (hc : 0 < c) (g : g3 a b c = 1) (h : A * c = a * C) (h2 : B * c = b * C) : lowD A B C = tup3 a b c := by
  obtain ⟨q1, q2, q3⟩ := g3_dvd A B C
  have e1 := fdiv_exact q1
  have e2 := fdiv_exact q2
  have e3 := fdiv_exact q3
  have hp := g3_pos (a := A) (b := B) hC
  have hz := low_pos (a := A) (b := B) hC
  have hl := g3_low (a := A) (b := B) hC
  unfold lowD
  generalize A.fdiv (g3 A B C : Nat) = x at *
  generalize B.fdiv (g3 A B C : Nat) = y at *
  generalize C.fdiv (g3 A B C : Nat) = z at *
  generalize (g3 A B C : Nat) = k at *
  have k0 : (k : Int) ≠ 0 := by omega
  have a1 : x * c = a * z := by
    refine Int.eq_of_mul_eq_mul_right k0 ?_
    calc x * c * k = x * k * c := by rw [Int.mul_right_comm]
      _ = A * c := by rw [e1]
      _ = a * C := h
      _ = a * (z * k) := by rw [e3]
      _ = a * z * k := by rw [Int.mul_assoc]
  have a2 : y * c = b * z := by
    refine Int.eq_of_mul_eq_mul_right k0 ?_
    calc y * c * k = y * k * c := by rw [Int.mul_right_comm]
      _ = B * c := by rw [e2]
      _ = b * C := h2
      _ = b * (z * k) := by rw [e3]
      _ = b * z * k := by rw [Int.mul_assoc]
  obtain ⟨r1, r2, r3⟩ := canon hz hc hl g a1 a2
  rw [r1, r2, r3]
/-- x + y in lowest terms, its parts -/
structure SumOf (a b c d e f p q s : Int) : Prop where
  pos : 0 < s
  low : g3 p q s = 1
  h1 : p * (c * f) = (a * f + d * c) * s
  h2 : q * (c * f) = (b * f + e * c) * s
theorem sum_of (a b d e : Int) {c f : Int} (hc : 0 < c) (hf : 0 < f) : ∃ p q s : Int, lowD (a * f + d * c) (b * f + e * c) (c * f) = tup3 p q s ∧ SumOf a b c d e f p q s ∧ p.natAbs ≤ (a * f + d * c).natAbs ∧ q.natAbs ≤ (b * f + e * c).natAbs ∧ s.natAbs ≤ (c * f).natAbs := by
  have hC := Int.mul_pos hc hf
  obtain ⟨q1, q2, q3⟩ := g3_dvd (a * f + d * c) (b * f + e * c) (c * f)
  have e1 := fdiv_exact q1
  have e2 := fdiv_exact q2
  have e3 := fdiv_exact q3
  refine ⟨_, _, _, rfl, ⟨low_pos hC, g3_low hC, ?_, ?_⟩, abs_low _ _, abs_low _ _, abs_low _ _⟩
  · generalize (a * f + d * c).fdiv (g3 (a * f + d * c) (b * f + e * c) (c * f) : Nat) = x at *
    generalize (c * f).fdiv (g3 (a * f + d * c) (b * f + e * c) (c * f) : Nat) = z at *
    generalize ((g3 (a * f + d * c) (b * f + e * c) (c * f) : Nat) : Int) = k at *
    rw [← e3, ← e1]
    rw [Int.mul_comm z, ← Int.mul_assoc]
  · generalize (b * f + e * c).fdiv (g3 (a * f + d * c) (b * f + e * c) (c * f) : Nat) = y at *
    generalize (c * f).fdiv (g3 (a * f + d * c) (b * f + e * c) (c * f) : Nat) = z at *
    generalize ((g3 (a * f + d * c) (b * f + e * c) (c * f) : Nat) : Int) = k at *
    rw [← e3, ← e2]
    rw [Int.mul_comm z, ← Int.mul_assoc]
/-- (x + y) - y = x -/
theorem sum_less {a b c d e f p q s : Int} (hc : 0 < c) (hf : 0 < f) (g : g3 a b c = 1) (S : SumOf a b c d e f p q s) : lowD (p * f + (0 - d) * s) (q * f + (0 - e) * s) (s * f) = tup3 a b c := by
  obtain ⟨hs, _, h1, h2⟩ := S
  refine low_eq (Int.mul_pos hs hf) hc g ?_ ?_
  · have : p * (c * f) = a * f * s + d * c * s := by rw [h1, Int.add_mul]
    have k : (p * f + (0 - d) * s) * c = p * (c * f) - d * c * s := by
      rw [Int.zero_sub, Int.add_mul, Int.neg_mul, Int.neg_mul, Int.mul_assoc p f c, Int.mul_comm f c, Int.mul_right_comm d s c]
      rfl
    rw [k, this, Int.add_sub_cancel, Int.mul_assoc, Int.mul_comm f s]
  · have : q * (c * f) = b * f * s + e * c * s := by rw [h2, Int.add_mul]
    have k : (q * f + (0 - e) * s) * c = q * (c * f) - e * c * s := by
      rw [Int.zero_sub, Int.add_mul, Int.neg_mul, Int.neg_mul, Int.mul_assoc q f c, Int.mul_comm f c, Int.mul_right_comm e s c]
      rfl
    rw [k, this, Int.add_sub_cancel, Int.mul_assoc, Int.mul_comm f s]
/-- y - (x + y) = - x -/
theorem less_sum {a b c d e f p q s : Int} (hc : 0 < c) (hf : 0 < f) (g : g3 a b c = 1) (S : SumOf a b c d e f p q s) : lowD (d * s + (0 - p) * f) (e * s + (0 - q) * f) (f * s) = tup3 (-a) (-b) c := by
  obtain ⟨hs, _, h1, h2⟩ := S
  refine low_eq (Int.mul_pos hf hs) hc (by rw [g3_neg]; exact g) ?_ ?_
  · have : p * (c * f) = a * f * s + d * c * s := by rw [h1, Int.add_mul]
    have k : (d * s + (0 - p) * f) * c = d * c * s - p * (c * f) := by
      rw [Int.zero_sub, Int.add_mul, Int.neg_mul, Int.neg_mul, Int.mul_assoc p f c, Int.mul_comm f c, Int.mul_right_comm d s c]
      rfl
    have k2 : -a * (f * s) = -(a * f * s) := by rw [Int.neg_mul, Int.mul_assoc]
    rw [k, this, k2]
    omega
  · have : q * (c * f) = b * f * s + e * c * s := by rw [h2, Int.add_mul]
    have k : (e * s + (0 - q) * f) * c = e * c * s - q * (c * f) := by
      rw [Int.zero_sub, Int.add_mul, Int.neg_mul, Int.neg_mul, Int.mul_assoc q f c, Int.mul_comm f c, Int.mul_right_comm e s c]
      rfl
    have k2 : -b * (f * s) = -(b * f * s) := by rw [Int.neg_mul, Int.mul_assoc]
    rw [k, this, k2]
    omega
/-- the law's less, told by the difference in lowest terms -/
theorem less_by {r a b c d e f x y z : Int} (hc : 0 < c) (hf : 0 < f) (ba : Bt 900 a) (bb : Bt 900 b) (bc : Bt 900 c) (bd : Bt 900 d) (be : Bt 900 e) (bf : Bt 900 f) (br : Bt 60 r) (h : lowD (a * f + (0 - d) * c) (b * f + (0 - e) * c) (c * f) = tup3 x y z) :
    d_less [.dat (.int r), .dat (tup3 a b c), .dat (tup3 d e f)] = some (.inr (false, .bool (negV r x y)), [.no, .no, .no]) := by
  rw [less_eq hc hf ba bb bc bd be bf br]
  unfold lowD at h
  injection h with h
  injection h with h1 h
  injection h with h2 h
  injection h1 with h1
  injection h2 with h2
  rw [h1, h2]
/-- roots that are taken -/
def okRoot (r : Int) : Prop := r = 0 ∨ r = 2 ∨ r = 3 ∨ r = 5 ∨ r = 7
theorem no_square : ∀ a : Fin 10, ∀ b : Fin 10, ∀ r : Fin 4, a.val * a.val = b.val * b.val * [2, 3, 5, 7][r.val] → a.val = 0 ∧ b.val = 0 := by decide +kernel
theorem root_apart {r a b : Int} (hr : okRoot r) (ha : a.natAbs ≤ 9) (hb : b.natAbs ≤ 9) (h0 : r = 0 → b = 0) (h : a * a = b * b * r) : a = 0 ∧ b = 0 := by
  by_cases hr0 : r = 0
  · have hb0 := h0 hr0
    subst hb0
    refine ⟨?_, rfl⟩
    have : a * a = 0 := by rw [h, hr0, Int.mul_zero]
    rcases Int.mul_eq_zero.mp this with h | h <;> exact h
  · obtain ⟨k, hk⟩ : ∃ k : Fin 4, r = ([2, 3, 5, 7][k.val] : Nat) := by
      rcases hr with h | h | h | h | h
      · exact absurd h hr0
      · exact ⟨0, h⟩
      · exact ⟨1, h⟩
      · exact ⟨2, h⟩
      · exact ⟨3, h⟩
    have e : a.natAbs * a.natAbs = b.natAbs * b.natAbs * [2, 3, 5, 7][k.val] := by
      have := congrArg Int.natAbs h
      rw [Int.natAbs_mul, Int.natAbs_mul, Int.natAbs_mul, hk, Int.natAbs_natCast] at this
      exact this
    have := no_square ⟨a.natAbs, by omega⟩ ⟨b.natAbs, by omega⟩ k e
    dsimp only at this
    omega
/-- what is above nought, turned about, is below -/
theorem negV_turn {r a b : Int} (hr : okRoot r) (ha : a.natAbs ≤ 9) (hb : b.natAbs ≤ 9) (h0 : r = 0 → b = 0) (hn : a ≠ 0 ∨ b ≠ 0) (h : negV r a b = false) : negV r (-a) (-b) = true := by
  unfold negV at h ⊢
  by_cases h1 : 0 ≤ a ∧ 0 ≤ b
  · rw [if_neg (by omega), if_pos (by omega)]
  · rw [if_neg h1] at h
    by_cases h2 : a ≤ 0 ∧ b ≤ 0
    · rw [if_pos h2] at h; cases h
    · rw [if_neg h2] at h
      rw [if_neg (by omega), if_neg (by omega)]
      have s1 : -a * -a = a * a := Int.neg_mul_neg a a
      have s2 : -b * -b = b * b := Int.neg_mul_neg b b
      rw [s1, s2]
      have hne : a * a ≠ b * b * r := fun e => by
        have := root_apart hr ha hb h0 e
        omega
      by_cases h3 : a < 0
      · rw [if_pos h3] at h
        rw [if_neg (by omega)]
        have := of_decide_eq_false h
        exact decide_eq_true (by omega)
      · rw [if_neg h3] at h
        rw [if_pos (by omega)]
        have := of_decide_eq_false h
        exact decide_eq_true (by omega)
/-! ### places in lists -/
theorem idx_at : ∀ {L : List Int} {j : Nat} {x : Int}, L.Nodup → L[j]? = some x → idxD (.int x) (L.map PyData.int) = some j
  | [], _, _, _, h => by simp at h
  | y :: L, 0, x, _, h => by
    have e : y = x := by simpa using h
    subst e
    simp [idxD, PyData.eqv]
  | y :: L, j + 1, x, hn, h => by
    rw [List.nodup_cons] at hn
    have hm : L[j]? = some x := by simpa using h
    have ne : y ≠ x := fun e => hn.1 (by rw [e]; exact List.mem_of_getElem? hm)
    have ih := idx_at hn.2 hm
    have e1 : PyData.eqv (.int y) (.int x) = false := by simp [PyData.eqv, ne]
    rw [List.map_cons]
    simp only [idxD, e1, cond_false, ih, Option.map_some]
theorem sh_tints (l : List Int) : SeqAt.shaped (.tuple (l.map PyData.int)) = true := shaped_by 1 (by simp only [noB]; exact noBs_ints l) (by simp only [dpth]; exact dpths_ints 0 l) (by decide)
theorem hIndexL_at {L : List Int} {j : Nat} {x : Int} (hn : L.Nodup) (h : L[j]? = some x) : hIndex true (.list (L.map PyData.int)) (.int x) = some (.val (.int (j : Nat))) := by
  simp only [hIndex, sh_ints, shaped_int, Bool.and_self, cond_true, idx_at hn h, Option.map_some]
theorem hIndexT_at {L : List Int} {j : Nat} {x : Int} (hn : L.Nodup) (h : L[j]? = some x) : hIndex false (.tuple (L.map PyData.int)) (.int x) = some (.val (.int (j : Nat))) := by
  simp only [hIndex, sh_tints, shaped_int, Bool.not_false, Bool.and_self, cond_true, idx_at hn h, Option.map_some]
/-- x.index(y) of a list or a tuple of ints -/
theorem fIndex_list {f g : M Rv} {fs fs1 fs2 : Fs} {x y : Rv} {L : List Int} {j : Nat} {z : Int} (h1 : f fs = some (.inr x, fs1)) (hx : x.rd fs1 = some (.list (L.map PyData.int))) (h2 : g fs1 = some (.inr y, fs2)) (hx2 : x.rd fs2 = some (.list (L.map PyData.int))) (hy : y.rd fs2 = some (.int z)) (hn : L.Nodup) (h : L[j]? = some z) :
    fIndex f g fs = some (.inr (.val (.int (j : Nat))), fs2) := by
  have : fIndexL f g fs = some (.inr (.val (.int (j : Nat))), fs2) := by
    simp only [fIndexL, bnd, h1, isL, hx, h2, rd2, hx2, hy, hIndexL_at hn h]
  simp only [fIndex, this]
theorem fIndex_tup {f g : M Rv} {fs fs1 fs2 : Fs} {x y : Rv} {L : List Int} {j : Nat} {z : Int} (h1 : f fs = some (.inr x, fs1)) (hx : x.rd fs1 = some (.tuple (L.map PyData.int))) (h2 : g fs1 = some (.inr y, fs2)) (hx2 : x.rd fs2 = some (.tuple (L.map PyData.int))) (hy : y.rd fs2 = some (.int z)) (hn : L.Nodup) (h : L[j]? = some z) :
    fIndex f g fs = some (.inr (.val (.int (j : Nat))), fs2) := by
  have e1 : fIndexL f g fs = none := by
    simp only [fIndexL, bnd, h1, isL, hx]
  have : fIndexT f g fs = some (.inr (.val (.int (j : Nat))), fs2) := by
    simp only [fIndexT, bnd, h1, isT, hx, h2, rd2, hx2, hy, hIndexT_at hn h]
  simp only [fIndex, e1, this]
def getD0 (xs : List D) : D → D
  | .int i => (atI xs i).getD .none
  | _ => .none
def posD (L : List Int) : D → D
  | .int x => .int ((L.idxOf x : Nat) : Int)
  | d => d
theorem idxOf_at {L : List Int} {j : Nat} {x : Int} (hn : L.Nodup) (h : L[j]? = some x) : L.idxOf x = j := by
  induction L generalizing j with
  | nil => simp at h
  | cons y L ih =>
    rw [List.nodup_cons] at hn
    cases j with
    | zero =>
      have e : y = x := by simpa using h
      subst e
      simp [List.idxOf_cons]
    | succ j =>
      have hm : L[j]? = some x := by simpa using h
      have ne : y ≠ x := fun e => hn.1 (by rw [e]; exact List.mem_of_getElem? hm)
      rw [List.idxOf_cons, ih hn.2 hm]
      have : (y == x) = false := by simpa using ne
      rw [this]
      rfl
theorem getElem_idxOf {L : List Int} {x : Int} (h : x ∈ L) : L[L.idxOf x]? = some x := by
  have hl := List.idxOf_lt_length_iff.mpr h
  rw [List.getElem?_eq_getElem hl, List.getElem_idxOf hl]
/-! ### numbers from 0 on, last ones -/
theorem upto_get {n i : Nat} (h : i < n) : (upto n)[i]? = some (i : Int) := by
  unfold upto
  rw [List.getElem?_map, List.getElem?_range h]
  rfl
theorem all_upto {n : Nat} {xs : List D} (h : xs.length = n) : ((upto n).map PyData.int).map (getD0 xs) = xs := by
  apply List.ext_getElem?
  intro i
  rw [List.getElem?_map, List.getElem?_map]
  by_cases hi : i < n
  · rw [upto_get hi]
    show some ((atI xs (i : Nat)).getD .none) = xs[i]?
    rw [atI_natE, List.getElem?_eq_getElem (by omega)]
    rfl
  · rw [List.getElem?_eq_none (by rw [upto_length]; omega), List.getElem?_eq_none (by omega)]
    rfl
theorem pos_upto {n : Nat} {l : List Int} (h : ∀ x ∈ l, x ∈ upto n) : (l.map PyData.int).map (posD (upto n)) = l.map PyData.int := by
  rw [List.map_map]
  refine List.map_congr_left fun x hx => ?_
  have hm := upto_mem.mp (h x hx)
  have e : (upto n)[x.toNat]? = some x := by rw [upto_get (by omega)]; congr 1; omega
  show PyData.int (((upto n).idxOf x : Nat) : Int) = .int x
  rw [idxOf_at (upto_nodup n) e]
  congr 1
  omega
theorem atI_last {α : Type} {xs : List α} {x : α} (h : xs.getLast? = some x) : atI xs (-1) = some x := by
  rw [List.getLast?_eq_getElem?] at h
  have hl := (List.getElem?_eq_some_iff.mp h).1
  unfold atI ixN
  rw [if_neg (by omega), if_pos (by omega)]
  show xs[(-1 + (xs.length : Int)).toNat]? = some x
  rw [show (-1 + (xs.length : Int)).toNat = xs.length - 1 by omega]
  exact h
theorem last_map {l : List Int} {x : Int} (h : l.getLast? = some x) : (l.map PyData.int).getLast? = some (.int x) := by rw [List.getLast?_map, h]; rfl
theorem isi_ok (i : Int) : hIsi "int" (.int i) = some (.val (.bool true)) ∧ hIsi "bool" (.int i) = some (.val (.bool false)) := by
  have e1 : kitB "int" "int" = some true := by decide +kernel
  have e2 : kitB "int" "bool" = some false := by decide +kernel
  constructor
  · show (bif true then (kitB "int" "int").map _ else none) = _
    rw [e1]; rfl
  · show (bif true then (kitB "int" "bool").map _ else none) = _
    rw [e2]; rfl
theorem in01 (i : Int) : hIn true (.int i) (.tuple [.int 0, .int 1]) = some (.val (.bool (!(decide (i = 0) || decide (i = 1))))) := by
  have : ∀ a b : Int, PyData.eqv (.int a) (.int b) = decide (a = b) := fun a b => by simp only [PyData.eqv]; rfl
  simp only [hIn, flatD, List.all_cons, List.all_nil, Bool.and_self, cond_true, List.any_cons, List.any_nil, this, Bool.or_false]
  have e1 : decide ((0 : Int) = i) = decide (i = 0) := by by_cases h : i = 0 <;> simp [h, eq_comm]
  have e2 : decide ((1 : Int) = i) = decide (i = 1) := by by_cases h : i = 1 <;> simp [h, eq_comm]
  rw [e1, e2]
  cases (decide (i = 0) || decide (i = 1)) <;> rfl
def neD (z : Int) : D → Bool
  | .int x => !decide (x = z)
  | _ => false
theorem fltI (l : List Int) (z : Int) : ((l.map PyData.int).filter (neD z)).map id = (l.filter fun x => !decide (x = z)).map PyData.int := filter_ints _ _ l fun x _ => rfl
theorem set_len {xs : List D} {i : Nat} {d : D} : (xs.set i d).length = xs.length := List.length_set
theorem split_filter {A B : List Int} {z : Int} (hn : (A ++ z :: B).Nodup) : (A ++ z :: B).filter (fun x => !decide (x = z)) = A ++ B := by
  rw [List.nodup_append] at hn
  obtain ⟨h1, h2, h3⟩ := hn
  rw [List.nodup_cons] at h2
  rw [List.filter_append, List.filter_cons_of_neg (by simp), List.filter_eq_self.mpr, List.filter_eq_self.mpr]
  · intro x hx
    have : x ≠ z := fun e => h2.1 (e ▸ hx)
    simpa using this
  · intro x hx
    have : x ≠ z := h3 x hx z List.mem_cons_self
    simpa using this
theorem isi_tup (ds : List D) : hIsi "tuple" (.tuple ds) = some (.val (.bool true)) := by
  have : kitB "tuple" "tuple" = some true := by decide +kernel
  show (bif true then (kitB "tuple" "tuple").map _ else none) = _
  rw [this]; rfl
theorem pw39 : hPow (.int 10) (.int 39) = some (.val (.int 1000000000000000000000000000000000000000)) := by
  have h1 : powOk 10 39 = true := by decide +kernel
  have h2 : (10 : Int) ^ ((39 : Int).toNat) = 1000000000000000000000000000000000000000 := by decide +kernel
  simp only [hPow, hInt2, h1, cond_true, h2]
/-! ### numbers over six -/
abbrev nm (A B : Int) : D := lowD A B 6
structure NmOf (A B a b c : Int) : Prop where
  pos : 0 < c
  low : g3 a b c = 1
  h1 : a * 6 = A * c
  h2 : b * 6 = B * c
  le : c.natAbs ≤ 6
  la : a.natAbs ≤ A.natAbs
  lb : b.natAbs ≤ B.natAbs
theorem nm_ex (A B : Int) : ∃ a b c : Int, nm A B = tup3 a b c ∧ NmOf A B a b c := by
  obtain ⟨q1, q2, q3⟩ := g3_dvd A B 6
  have e1 := fdiv_exact q1
  have e2 := fdiv_exact q2
  have e3 := fdiv_exact q3
  have hC : (0 : Int) < 6 := by decide
  refine ⟨_, _, _, rfl, low_pos hC, g3_low hC, ?_, ?_, abs_low 6 _, abs_low _ _, abs_low _ _⟩
  · generalize A.fdiv (g3 A B 6 : Nat) = x at *
    generalize (6 : Int).fdiv (g3 A B 6 : Nat) = z at *
    generalize ((g3 A B 6 : Nat) : Int) = k at *
    rw [← e1]
    conv => lhs; rw [← e3]
    rw [Int.mul_comm z, ← Int.mul_assoc]
  · generalize B.fdiv (g3 A B 6 : Nat) = x at *
    generalize (6 : Int).fdiv (g3 A B 6 : Nat) = z at *
    generalize ((g3 A B 6 : Nat) : Int) = k at *
    rw [← e2]
    conv => lhs; rw [← e3]
    rw [Int.mul_comm z, ← Int.mul_assoc]
theorem nm_of {A B a b c : Int} (hc : 0 < c) (g : g3 a b c = 1) (h1 : a * 6 = A * c) (h2 : b * 6 = B * c) : nm A B = tup3 a b c := low_eq (by decide) hc g h1.symm h2.symm
theorem tup3_inj {a b c d e f : Int} (h : tup3 a b c = tup3 d e f) : a = d ∧ b = e ∧ c = f := by
  injection h with h
  injection h with h1 h
  injection h with h2 h
  injection h with h3 h
  injection h1 with h1
  injection h2 with h2
  injection h3 with h3
  exact ⟨h1, h2, h3⟩
theorem nm_inj {A B A' B' : Int} (h : nm A B = nm A' B') : A = A' ∧ B = B' := by
  obtain ⟨a, b, c, e, n⟩ := nm_ex A B
  obtain ⟨a', b', c', e', n'⟩ := nm_ex A' B'
  rw [e, e'] at h
  obtain ⟨rfl, rfl, rfl⟩ := tup3_inj h
  have hp := n.pos
  exact ⟨Int.eq_of_mul_eq_mul_right (by omega) (n.h1.symm.trans n'.h1), Int.eq_of_mul_eq_mul_right (by omega) (n.h2.symm.trans n'.h2)⟩
theorem NmOf.ba {A B a b c : Int} {k : Nat} (n : NmOf A B a b c) (h : Bt k A) : Bt k a := PySem.intBits_le_of_natAbs n.la h
theorem NmOf.bb {A B a b c : Int} {k : Nat} (n : NmOf A B a b c) (h : Bt k B) : Bt k b := PySem.intBits_le_of_natAbs n.lb h
theorem NmOf.bc {A B a b c : Int} (n : NmOf A B a b c) : Bt 60 c := bits_le (by have := n.le; omega)
theorem add6 {A A' a c d f p s : Int} (h1 : a * 6 = A * c) (h2 : d * 6 = A' * f) (h3 : p * 6 = (A + A') * s) : (a * f + d * c) * s = p * (c * f) := by
  refine Int.eq_of_mul_eq_mul_right (show (6 : Int) ≠ 0 by decide) ?_
  have e1 : (a * f + d * c) * s * 6 = (a * 6) * f * s + (d * 6) * c * s := by grind
  have e2 : p * (c * f) * 6 = (p * 6) * (c * f) := by grind
  rw [e1, e2, h1, h2, h3]
  grind
theorem sub6 {A A' a c d f p s : Int} (h1 : a * 6 = A * c) (h2 : d * 6 = A' * f) (h3 : p * 6 = (A - A') * s) : (a * f + (0 - d) * c) * s = p * (c * f) := by
  refine Int.eq_of_mul_eq_mul_right (show (6 : Int) ≠ 0 by decide) ?_
  have e1 : (a * f + (0 - d) * c) * s * 6 = (a * 6) * f * s - (d * 6) * c * s := by grind
  have e2 : p * (c * f) * 6 = (p * 6) * (c * f) := by grind
  rw [e1, e2, h1, h2, h3]
  grind
theorem low_add {A B A' B' a b c d e f : Int} (n : NmOf A B a b c) (n' : NmOf A' B' d e f) : lowD (a * f + d * c) (b * f + e * c) (c * f) = nm (A + A') (B + B') := by
  obtain ⟨p, q, s, e0, m⟩ := nm_ex (A + A') (B + B')
  rw [e0]
  exact low_eq (Int.mul_pos n.pos n'.pos) m.pos m.low (add6 n.h1 n'.h1 m.h1) (add6 n.h2 n'.h2 m.h2)
theorem low_sub {A B A' B' a b c d e f : Int} (n : NmOf A B a b c) (n' : NmOf A' B' d e f) : lowD (a * f + (0 - d) * c) (b * f + (0 - e) * c) (c * f) = nm (A - A') (B - B') := by
  obtain ⟨p, q, s, e0, m⟩ := nm_ex (A - A') (B - B')
  rw [e0]
  exact low_eq (Int.mul_pos n.pos n'.pos) m.pos m.low (sub6 n.h1 n'.h1 m.h1) (sub6 n.h2 n'.h2 m.h2)
theorem nm_plus {A B A' B' : Int} (r : D) (hA : Bt 800 A) (hB : Bt 800 B) (hA' : Bt 800 A') (hB' : Bt 800 B') : d_p_plus [.dat r, .dat (nm A B), .dat (nm A' B')] = some (.inr (false, nm (A + A') (B + B')), [.no, .no, .no]) := by
  obtain ⟨a, b, c, e1, n⟩ := nm_ex A B
  obtain ⟨d, e, f, e2, n'⟩ := nm_ex A' B'
  rw [e1, e2, p_plus_eq r n.pos n'.pos ((n.ba hA).mono (by decide)) ((n.bb hB).mono (by decide)) (n.bc.mono (by decide)) ((n'.ba hA').mono (by decide)) ((n'.bb hB').mono (by decide)) (n'.bc.mono (by decide)), low_add n n']
theorem nm_minus {A B A' B' : Int} (hA : Bt 800 A) (hB : Bt 800 B) (hA' : Bt 800 A') (hB' : Bt 800 B') : d_minus [.dat (nm A B), .dat (nm A' B')] = some (.inr (false, nm (A - A') (B - B')), [.no, .no]) := by
  obtain ⟨a, b, c, e1, n⟩ := nm_ex A B
  obtain ⟨d, e, f, e2, n'⟩ := nm_ex A' B'
  rw [e1, e2, minus_eq n.pos n'.pos ((n.ba hA).mono (by decide)) ((n.bb hB).mono (by decide)) (n.bc.mono (by decide)) ((n'.ba hA').mono (by decide)) ((n'.bb hB').mono (by decide)) (n'.bc.mono (by decide)), low_sub n n']
theorem p_minus_eq {a b c d e f : Int} (r : D) (hc : 0 < c) (hf : 0 < f) (ba : Bt 4000 a) (bb : Bt 4000 b) (bc : Bt 4000 c) (bd : Bt 3998 d) (be : Bt 3998 e) (bf : Bt 4000 f) :
    d_p_minus [.dat r, .dat (tup3 a b c), .dat (tup3 d e f)] = some (.inr (false, lowD (a * f + (0 - d) * c) (b * f + (0 - e) * c) (c * f)), [.no, .no, .no]) := by
  have z : Bt 1 (0 : Int) := by decide
  have e0 := p_plus_eq (a := a) (b := b) (c := c) (d := 0 - d) (e := 0 - e) (f := f) r hc hf ba bb bc ((z.sub bd).mono (by decide)) ((z.sub be).mono (by decide)) bf
  simp only [d_p_minus, mkFn, sCons, sSet, sPar, sUnp, sIf, sRet, sRetN, sDrop, sNil, sBrk, sCnt, bndS, bnd, rt, opt, fVar, fVal, fBin, fUn, rd1, rd2, Rv.rd, Sl.rd, fD, fzM, Rv.fz, fCons, fNil, dCons, dNil, aCons, aNil, aBoxN, aBox, fCall, resolve, boxes, bxpos, wb, fNm, rdAll, fTup, fLst, hAdd, hSub, hInt2, hMulL, hLt, hLe, hGt, hGe, hNeg, hAbs, hLen, hInt1, hMax2, hMin2, hIx, fSl, oNone, oSome, hSl, fB, toB, fAnd, fOr, fNot, fAndV, fOrV, fNotV, fChain, kName, kTup, kCons, kNil, slOk, sStore, fMt, mtGo, hApp, hFdiv, hMod, hDivmod, outs, List.length_cons, List.length_nil, List.getElem?_cons_zero, List.getElem?_cons_succ, List.getElem?_nil, List.set_cons_zero, List.set_cons_succ, List.replicate_succ, List.replicate_zero, List.cons_append, List.nil_append, Option.bind_some, Option.map_some, cond_true, cond_false, ite_true, ite_false, Nat.reduceAdd, Nat.reduceSub, Nat.reduceEqDiff, Nat.reduceLeDiff, if_true, if_false, reduceIte, atI_n0, atI_n1, atI_n2, atI_n3, ixN_10, ixN_20, ixN_21, hEq_int, hNe_int, Bool.not_true, decide_true, decide_false, hTuple, sTryK, sRaise, Bool.false_eq_true, Bool.not_false, sz0, sz1, sz2, sz3, sz4, sz5, sz6, sz7, sz8, e0]
theorem nm_pminus {A B A' B' : Int} (r : D) (hA : Bt 800 A) (hB : Bt 800 B) (hA' : Bt 800 A') (hB' : Bt 800 B') : d_p_minus [.dat r, .dat (nm A B), .dat (nm A' B')] = some (.inr (false, nm (A - A') (B - B')), [.no, .no, .no]) := by
  obtain ⟨a, b, c, e1, n⟩ := nm_ex A B
  obtain ⟨d, e, f, e2, n'⟩ := nm_ex A' B'
  rw [e1, e2, p_minus_eq r n.pos n'.pos ((n.ba hA).mono (by decide)) ((n.bb hB).mono (by decide)) (n.bc.mono (by decide)) ((n'.ba hA').mono (by decide)) ((n'.bb hB').mono (by decide)) (n'.bc.mono (by decide)), low_sub n n']
/-! ### above and below nought -/
theorem sq_scale {x X z y Y r : Int} (hz : 0 < z) (h1 : x * 6 = X * z) (h2 : y * 6 = Y * z) : (y * y * r < x * x ↔ Y * Y * r < X * X) ∧ (x * x < y * y * r ↔ X * X < Y * Y * r) := by
  have hzz : 0 < z * z := Int.mul_pos hz hz
  have e1 : x * x * 36 = X * X * (z * z) := by
    have : x * x * 36 = (x * 6) * (x * 6) := by grind
    rw [this, h1]; grind
  have e2 : y * y * r * 36 = Y * Y * r * (z * z) := by
    have : y * y * r * 36 = (y * 6) * (y * 6) * r := by grind
    rw [this, h2]; grind
  have k : ∀ p q : Int, p * (z * z) < q * (z * z) ↔ p < q := fun p q => ⟨fun h => Int.lt_of_mul_lt_mul_right h (Int.le_of_lt hzz), fun h => Int.mul_lt_mul_of_pos_right h hzz⟩
  constructor
  · rw [← k (Y * Y * r), ← e1, ← e2]; omega
  · rw [← k (X * X), ← e1, ← e2]; omega
theorem sg_scale {x X z : Int} (hz : 0 < z) (h1 : x * 6 = X * z) : (0 ≤ x ↔ 0 ≤ X) ∧ (x ≤ 0 ↔ X ≤ 0) := by
  have k : ∀ p : Int, 0 ≤ p * z ↔ 0 ≤ p := fun p => ⟨fun h => by
    have : 0 * z ≤ p * z := by rw [Int.zero_mul]; exact h
    exact Int.le_of_mul_le_mul_right this hz, fun h => Int.mul_nonneg h (Int.le_of_lt hz)⟩
  have k2 : ∀ p : Int, p * z ≤ 0 ↔ p ≤ 0 := fun p => ⟨fun h => by
    have : p * z ≤ 0 * z := by rw [Int.zero_mul]; exact h
    exact Int.le_of_mul_le_mul_right this hz, fun h => by
    have := Int.mul_le_mul_of_nonneg_right h (Int.le_of_lt hz)
    rw [Int.zero_mul] at this
    exact this⟩
  constructor
  · rw [← k X, ← h1]; omega
  · rw [← k2 X, ← h1]; omega
theorem negV_scale {r x y z X Y : Int} (hz : 0 < z) (h1 : x * 6 = X * z) (h2 : y * 6 = Y * z) : negV r x y = negV r X Y := by
  obtain ⟨a1, a2⟩ := sg_scale hz h1
  obtain ⟨b1, b2⟩ := sg_scale hz h2
  obtain ⟨c1, c2⟩ := sq_scale (r := r) hz h1 h2
  have a3 : x < 0 ↔ X < 0 := by omega
  unfold negV
  simp only [a1, a2, b1, b2, a3, c1, c2]
theorem nm_less {r A B A' B' : Int} (hr : Bt 60 r) (hA : Bt 800 A) (hB : Bt 800 B) (hA' : Bt 800 A') (hB' : Bt 800 B') : d_less [.dat (.int r), .dat (nm A B), .dat (nm A' B')] = some (.inr (false, .bool (negV r (A - A') (B - B'))), [.no, .no, .no]) := by
  obtain ⟨a, b, c, e1, n⟩ := nm_ex A B
  obtain ⟨d, e, f, e2, n'⟩ := nm_ex A' B'
  obtain ⟨x, y, z, e3, m⟩ := nm_ex (A - A') (B - B')
  rw [e1, e2, less_by n.pos n'.pos ((n.ba hA).mono (by decide)) ((n.bb hB).mono (by decide)) (n.bc.mono (by decide)) ((n'.ba hA').mono (by decide)) ((n'.bb hB').mono (by decide)) (n'.bc.mono (by decide)) hr ((low_sub n n').trans e3), negV_scale m.pos m.h1 m.h2]
/-! ### roots are no fractions -/
theorem sq_mod {p : Int} (hp : p = 2 ∨ p = 3 ∨ p = 5 ∨ p = 7) {a c : Int} (h : a * a = c * p) : ∃ k, a = p * k := by
  have hm : (a % p) * (a % p) % p = 0 := by
    rw [← Int.mul_emod, h, Int.mul_emod_left]
  refine ⟨a / p, ?_⟩
  have : a % p = 0 := by
    have h1 : 0 ≤ a % p := Int.emod_nonneg _ (by omega)
    have h2 : a % p < p := Int.emod_lt_of_pos _ (by omega)
    generalize a % p = t at *
    rcases hp with rfl | rfl | rfl | rfl
    · have : t = 0 ∨ t = 1 := by omega
      rcases this with rfl | rfl <;> first | rfl | (exfalso; revert hm; decide)
    · have : t = 0 ∨ t = 1 ∨ t = 2 := by omega
      rcases this with rfl | rfl | rfl <;> first | rfl | (exfalso; revert hm; decide)
    · have : t = 0 ∨ t = 1 ∨ t = 2 ∨ t = 3 ∨ t = 4 := by omega
      rcases this with rfl | rfl | rfl | rfl | rfl <;> first | rfl | (exfalso; revert hm; decide)
    · have : t = 0 ∨ t = 1 ∨ t = 2 ∨ t = 3 ∨ t = 4 ∨ t = 5 ∨ t = 6 := by omega
      rcases this with rfl | rfl | rfl | rfl | rfl | rfl | rfl <;> first | rfl | (exfalso; revert hm; decide)
  have e := Int.mul_ediv_add_emod a p
  omega
theorem irr_aux {p : Int} (hp : p = 2 ∨ p = 3 ∨ p = 5 ∨ p = 7) : ∀ (n : Nat) (a b : Int), a.natAbs ≤ n → a * a = b * b * p → a = 0 := by
  intro n
  induction n with
  | zero => intro a b h _; omega
  | succ n ih =>
    intro a b h e
    obtain ⟨k, hk⟩ := sq_mod hp e
    have hp0 : p ≠ 0 := by omega
    have e2 : b * b = k * k * p := by
      refine Int.eq_of_mul_eq_mul_right hp0 ?_
      rw [← e, hk]
      grind
    obtain ⟨j, hj⟩ := sq_mod hp e2
    have e3 : k * k = j * j * p := by
      refine Int.eq_of_mul_eq_mul_right hp0 ?_
      rw [← e2, hj]
      grind
    by_cases hk0 : k = 0
    · rw [hk, hk0, Int.mul_zero]
    have hlt : k.natAbs ≤ n := by
      have : a.natAbs = p.natAbs * k.natAbs := by rw [hk, Int.natAbs_mul]
      have h2 : 2 * k.natAbs ≤ p.natAbs * k.natAbs := Nat.mul_le_mul_right _ (by omega)
      omega
    have := ih k j hlt e3
    omega
theorem root_irr {r a b : Int} (hr : okRoot r) (h0 : r = 0 → b = 0) (h : a * a = b * b * r) : a = 0 ∧ b = 0 := by
  by_cases hr0 : r = 0
  · have hb0 := h0 hr0
    subst hb0
    refine ⟨?_, rfl⟩
    have : a * a = 0 := by rw [h, hr0, Int.mul_zero]
    rcases Int.mul_eq_zero.mp this with h | h <;> exact h
  · have hp : r = 2 ∨ r = 3 ∨ r = 5 ∨ r = 7 := by rcases hr with h | h | h | h | h <;> omega
    have ha := irr_aux hp _ a b (Nat.le_refl _) h
    refine ⟨ha, ?_⟩
    rw [ha] at h
    have : b * b * r = 0 := by rw [← h]; rfl
    rcases Int.mul_eq_zero.mp this with h | h
    · rcases Int.mul_eq_zero.mp h with h | h <;> exact h
    · exact absurd h hr0
theorem heq_tt : hEq (.bool true) (.bool true) = some (.val (.bool true)) := by rfl
theorem heq_tf : hEq (.bool true) (.bool false) = some (.val (.bool false)) := by rfl
theorem heq_ft : hEq (.bool false) (.bool true) = some (.val (.bool false)) := by rfl
theorem heq_ff : hEq (.bool false) (.bool false) = some (.val (.bool true)) := by rfl
/-- the program's sign, told as the law's less -/
def sgV (r a b : Int) : Int := if a = 0 ∧ b = 0 then 0 else if negV r a b = true then -1 else 1
theorem sign_eq {r a b c : Int} (hr : okRoot r) (h0 : r = 0 → b = 0) (ba : Bt 900 a) (bb : Bt 900 b) : d_p_sign_of [.dat (.int r), .dat (tup3 a b c)] = some (.inr (false, .int (sgV r a b)), [.no, .no]) := by
  have br : Bt 60 r := by rcases hr with rfl | rfl | rfl | rfl | rfl <;> decide
  have o1 := ba.ok ba (by decide)
  have o2 := bb.ok bb (by decide)
  have o3 := (bb.mul bb).ok br (by decide)
  have irr := root_irr (a := a) (b := b) hr h0
  unfold sgV negV
  by_cases h1 : a = 0
  · subst h1
    by_cases h2 : b = 0
    · subst h2
      simp only [d_p_sign_of, mkFn, sCons, sSet, sPar, sUnp, sIf, sRet, sRetN, sDrop, sNil, sBrk, sCnt, bndS, bnd, rt, opt, fVar, fVal, fBin, fUn, rd1, rd2, Rv.rd, Sl.rd, fD, fzM, Rv.fz, fCons, fNil, dCons, dNil, aCons, aNil, aBoxN, aBox, fCall, resolve, boxes, bxpos, wb, fNm, rdAll, fTup, fLst, hAdd, hSub, hInt2, hMulL, hLt, hLe, hGt, hGe, hNeg, hAbs, hLen, hInt1, hMax2, hMin2, hIx, fSl, oNone, oSome, hSl, fB, toB, fAnd, fOr, fNot, fAndV, fOrV, fNotV, fChain, kName, kTup, kCons, kNil, slOk, sStore, fMt, mtGo, hApp, hFdiv, hMod, hDivmod, outs, List.length_cons, List.length_nil, List.getElem?_cons_zero, List.getElem?_cons_succ, List.getElem?_nil, List.set_cons_zero, List.set_cons_succ, List.replicate_succ, List.replicate_zero, List.cons_append, List.nil_append, Option.bind_some, Option.map_some, cond_true, cond_false, ite_true, ite_false, Nat.reduceAdd, Nat.reduceSub, Nat.reduceEqDiff, Nat.reduceLeDiff, if_true, if_false, reduceIte, atI_n0, atI_n1, atI_n2, atI_n3, ixN_10, ixN_20, ixN_21, hEq_int, hNe_int, Bool.not_true, decide_true, decide_false, hTuple, sTryK, sRaise, Bool.false_eq_true, Bool.not_false, sz0, sz1, sz2, sz3, sz4, sz5, sz6, sz7, sz8, and_self]
    · have d2 := decide_eq_false h2
      by_cases h3 : 0 ≤ b
      · have d3 := decide_eq_true h3
        simp only [d_p_sign_of, mkFn, sCons, sSet, sPar, sUnp, sIf, sRet, sRetN, sDrop, sNil, sBrk, sCnt, bndS, bnd, rt, opt, fVar, fVal, fBin, fUn, rd1, rd2, Rv.rd, Sl.rd, fD, fzM, Rv.fz, fCons, fNil, dCons, dNil, aCons, aNil, aBoxN, aBox, fCall, resolve, boxes, bxpos, wb, fNm, rdAll, fTup, fLst, hAdd, hSub, hInt2, hMulL, hLt, hLe, hGt, hGe, hNeg, hAbs, hLen, hInt1, hMax2, hMin2, hIx, fSl, oNone, oSome, hSl, fB, toB, fAnd, fOr, fNot, fAndV, fOrV, fNotV, fChain, kName, kTup, kCons, kNil, slOk, sStore, fMt, mtGo, hApp, hFdiv, hMod, hDivmod, outs, List.length_cons, List.length_nil, List.getElem?_cons_zero, List.getElem?_cons_succ, List.getElem?_nil, List.set_cons_zero, List.set_cons_succ, List.replicate_succ, List.replicate_zero, List.cons_append, List.nil_append, Option.bind_some, Option.map_some, cond_true, cond_false, ite_true, ite_false, Nat.reduceAdd, Nat.reduceSub, Nat.reduceEqDiff, Nat.reduceLeDiff, if_true, if_false, reduceIte, atI_n0, atI_n1, atI_n2, atI_n3, ixN_10, ixN_20, ixN_21, hEq_int, hNe_int, Bool.not_true, decide_true, decide_false, hTuple, sTryK, sRaise, Bool.false_eq_true, Bool.not_false, sz0, sz1, sz2, sz3, sz4, sz5, sz6, sz7, sz8, d2, d3, h2, h3, and_false, Int.le_refl, and_self, Bool.false_eq_true]
      · have d3 := decide_eq_false h3
        have h4 : b ≤ 0 := by omega
        have d4 := decide_eq_true h4
        simp only [d_p_sign_of, mkFn, sCons, sSet, sPar, sUnp, sIf, sRet, sRetN, sDrop, sNil, sBrk, sCnt, bndS, bnd, rt, opt, fVar, fVal, fBin, fUn, rd1, rd2, Rv.rd, Sl.rd, fD, fzM, Rv.fz, fCons, fNil, dCons, dNil, aCons, aNil, aBoxN, aBox, fCall, resolve, boxes, bxpos, wb, fNm, rdAll, fTup, fLst, hAdd, hSub, hInt2, hMulL, hLt, hLe, hGt, hGe, hNeg, hAbs, hLen, hInt1, hMax2, hMin2, hIx, fSl, oNone, oSome, hSl, fB, toB, fAnd, fOr, fNot, fAndV, fOrV, fNotV, fChain, kName, kTup, kCons, kNil, slOk, sStore, fMt, mtGo, hApp, hFdiv, hMod, hDivmod, outs, List.length_cons, List.length_nil, List.getElem?_cons_zero, List.getElem?_cons_succ, List.getElem?_nil, List.set_cons_zero, List.set_cons_succ, List.replicate_succ, List.replicate_zero, List.cons_append, List.nil_append, Option.bind_some, Option.map_some, cond_true, cond_false, ite_true, ite_false, Nat.reduceAdd, Nat.reduceSub, Nat.reduceEqDiff, Nat.reduceLeDiff, if_true, if_false, reduceIte, atI_n0, atI_n1, atI_n2, atI_n3, ixN_10, ixN_20, ixN_21, hEq_int, hNe_int, Bool.not_true, decide_true, decide_false, hTuple, sTryK, sRaise, Bool.false_eq_true, Bool.not_false, sz0, sz1, sz2, sz3, sz4, sz5, sz6, sz7, sz8, d2, d3, d4, h2, h3, h4, and_false, Int.le_refl, and_self, Bool.false_eq_true]
  · have d1 := decide_eq_false h1
    by_cases h3 : 0 ≤ a
    · have d3 := decide_eq_true h3
      have h5 : 0 < a := by omega
      have d5 := decide_eq_true h5
      have h6 : ¬ a ≤ 0 := by omega
      have d6 := decide_eq_false h6
      have h7 : ¬ a < 0 := by omega
      by_cases h2 : 0 ≤ b
      · have d2 := decide_eq_true h2
        simp only [d_p_sign_of, mkFn, sCons, sSet, sPar, sUnp, sIf, sRet, sRetN, sDrop, sNil, sBrk, sCnt, bndS, bnd, rt, opt, fVar, fVal, fBin, fUn, rd1, rd2, Rv.rd, Sl.rd, fD, fzM, Rv.fz, fCons, fNil, dCons, dNil, aCons, aNil, aBoxN, aBox, fCall, resolve, boxes, bxpos, wb, fNm, rdAll, fTup, fLst, hAdd, hSub, hInt2, hMulL, hLt, hLe, hGt, hGe, hNeg, hAbs, hLen, hInt1, hMax2, hMin2, hIx, fSl, oNone, oSome, hSl, fB, toB, fAnd, fOr, fNot, fAndV, fOrV, fNotV, fChain, kName, kTup, kCons, kNil, slOk, sStore, fMt, mtGo, hApp, hFdiv, hMod, hDivmod, outs, List.length_cons, List.length_nil, List.getElem?_cons_zero, List.getElem?_cons_succ, List.getElem?_nil, List.set_cons_zero, List.set_cons_succ, List.replicate_succ, List.replicate_zero, List.cons_append, List.nil_append, Option.bind_some, Option.map_some, cond_true, cond_false, ite_true, ite_false, Nat.reduceAdd, Nat.reduceSub, Nat.reduceEqDiff, Nat.reduceLeDiff, if_true, if_false, reduceIte, atI_n0, atI_n1, atI_n2, atI_n3, ixN_10, ixN_20, ixN_21, hEq_int, hNe_int, Bool.not_true, decide_true, decide_false, hTuple, sTryK, sRaise, Bool.false_eq_true, Bool.not_false, sz0, sz1, sz2, sz3, sz4, sz5, sz6, sz7, sz8, d1, d2, d3, h1, h2, h3, false_and, and_self, Bool.false_eq_true]
      · have d2 := decide_eq_false h2
        by_cases hq : b * b * r < a * a
        · have dq := decide_eq_true hq
          have hq2 : ¬ a * a < b * b * r := by omega
          have dq2 := decide_eq_false hq2
          simp only [d_p_sign_of, mkFn, sCons, sSet, sPar, sUnp, sIf, sRet, sRetN, sDrop, sNil, sBrk, sCnt, bndS, bnd, rt, opt, fVar, fVal, fBin, fUn, rd1, rd2, Rv.rd, Sl.rd, fD, fzM, Rv.fz, fCons, fNil, dCons, dNil, aCons, aNil, aBoxN, aBox, fCall, resolve, boxes, bxpos, wb, fNm, rdAll, fTup, fLst, hAdd, hSub, hInt2, hMulL, hLt, hLe, hGt, hGe, hNeg, hAbs, hLen, hInt1, hMax2, hMin2, hIx, fSl, oNone, oSome, hSl, fB, toB, fAnd, fOr, fNot, fAndV, fOrV, fNotV, fChain, kName, kTup, kCons, kNil, slOk, sStore, fMt, mtGo, hApp, hFdiv, hMod, hDivmod, outs, List.length_cons, List.length_nil, List.getElem?_cons_zero, List.getElem?_cons_succ, List.getElem?_nil, List.set_cons_zero, List.set_cons_succ, List.replicate_succ, List.replicate_zero, List.cons_append, List.nil_append, Option.bind_some, Option.map_some, cond_true, cond_false, ite_true, ite_false, Nat.reduceAdd, Nat.reduceSub, Nat.reduceEqDiff, Nat.reduceLeDiff, if_true, if_false, reduceIte, atI_n0, atI_n1, atI_n2, atI_n3, ixN_10, ixN_20, ixN_21, hEq_int, hNe_int, Bool.not_true, decide_true, decide_false, hTuple, sTryK, sRaise, Bool.false_eq_true, Bool.not_false, sz0, sz1, sz2, sz3, sz4, sz5, sz6, sz7, sz8, d1, d2, d3, d5, d6, h1, h2, h3, h6, h7, o1, o2, o3, dq, dq2, false_and, and_false, Bool.false_eq_true, heq_tt, heq_tf, heq_ft, heq_ff]
        · have dq := decide_eq_false hq
          have hq2 : a * a < b * b * r := by
            have : a * a ≠ b * b * r := fun e => h1 (irr e).1
            omega
          have dq2 := decide_eq_true hq2
          simp only [d_p_sign_of, mkFn, sCons, sSet, sPar, sUnp, sIf, sRet, sRetN, sDrop, sNil, sBrk, sCnt, bndS, bnd, rt, opt, fVar, fVal, fBin, fUn, rd1, rd2, Rv.rd, Sl.rd, fD, fzM, Rv.fz, fCons, fNil, dCons, dNil, aCons, aNil, aBoxN, aBox, fCall, resolve, boxes, bxpos, wb, fNm, rdAll, fTup, fLst, hAdd, hSub, hInt2, hMulL, hLt, hLe, hGt, hGe, hNeg, hAbs, hLen, hInt1, hMax2, hMin2, hIx, fSl, oNone, oSome, hSl, fB, toB, fAnd, fOr, fNot, fAndV, fOrV, fNotV, fChain, kName, kTup, kCons, kNil, slOk, sStore, fMt, mtGo, hApp, hFdiv, hMod, hDivmod, outs, List.length_cons, List.length_nil, List.getElem?_cons_zero, List.getElem?_cons_succ, List.getElem?_nil, List.set_cons_zero, List.set_cons_succ, List.replicate_succ, List.replicate_zero, List.cons_append, List.nil_append, Option.bind_some, Option.map_some, cond_true, cond_false, ite_true, ite_false, Nat.reduceAdd, Nat.reduceSub, Nat.reduceEqDiff, Nat.reduceLeDiff, if_true, if_false, reduceIte, atI_n0, atI_n1, atI_n2, atI_n3, ixN_10, ixN_20, ixN_21, hEq_int, hNe_int, Bool.not_true, decide_true, decide_false, hTuple, sTryK, sRaise, Bool.false_eq_true, Bool.not_false, sz0, sz1, sz2, sz3, sz4, sz5, sz6, sz7, sz8, d1, d2, d3, d5, d6, h1, h2, h3, h6, h7, o1, o2, o3, dq, dq2, false_and, and_false, Bool.false_eq_true, heq_tt, heq_tf, heq_ft, heq_ff]
    · have d3 := decide_eq_false h3
      have h4 : a ≤ 0 := by omega
      have d4 := decide_eq_true h4
      have h5 : ¬ 0 < a := by omega
      have d5 := decide_eq_false h5
      have h7 : a < 0 := by omega
      have d7 := decide_eq_true h7
      by_cases h2 : b ≤ 0
      · have d2 := decide_eq_true h2
        simp only [d_p_sign_of, mkFn, sCons, sSet, sPar, sUnp, sIf, sRet, sRetN, sDrop, sNil, sBrk, sCnt, bndS, bnd, rt, opt, fVar, fVal, fBin, fUn, rd1, rd2, Rv.rd, Sl.rd, fD, fzM, Rv.fz, fCons, fNil, dCons, dNil, aCons, aNil, aBoxN, aBox, fCall, resolve, boxes, bxpos, wb, fNm, rdAll, fTup, fLst, hAdd, hSub, hInt2, hMulL, hLt, hLe, hGt, hGe, hNeg, hAbs, hLen, hInt1, hMax2, hMin2, hIx, fSl, oNone, oSome, hSl, fB, toB, fAnd, fOr, fNot, fAndV, fOrV, fNotV, fChain, kName, kTup, kCons, kNil, slOk, sStore, fMt, mtGo, hApp, hFdiv, hMod, hDivmod, outs, List.length_cons, List.length_nil, List.getElem?_cons_zero, List.getElem?_cons_succ, List.getElem?_nil, List.set_cons_zero, List.set_cons_succ, List.replicate_succ, List.replicate_zero, List.cons_append, List.nil_append, Option.bind_some, Option.map_some, cond_true, cond_false, ite_true, ite_false, Nat.reduceAdd, Nat.reduceSub, Nat.reduceEqDiff, Nat.reduceLeDiff, if_true, if_false, reduceIte, atI_n0, atI_n1, atI_n2, atI_n3, ixN_10, ixN_20, ixN_21, hEq_int, hNe_int, Bool.not_true, decide_true, decide_false, hTuple, sTryK, sRaise, Bool.false_eq_true, Bool.not_false, sz0, sz1, sz2, sz3, sz4, sz5, sz6, sz7, sz8, d1, d2, d3, d4, h1, h2, h3, h4, false_and, and_self, Bool.false_eq_true]
      · have d2 := decide_eq_false h2
        by_cases hq : b * b * r < a * a
        · have dq := decide_eq_true hq
          simp only [d_p_sign_of, mkFn, sCons, sSet, sPar, sUnp, sIf, sRet, sRetN, sDrop, sNil, sBrk, sCnt, bndS, bnd, rt, opt, fVar, fVal, fBin, fUn, rd1, rd2, Rv.rd, Sl.rd, fD, fzM, Rv.fz, fCons, fNil, dCons, dNil, aCons, aNil, aBoxN, aBox, fCall, resolve, boxes, bxpos, wb, fNm, rdAll, fTup, fLst, hAdd, hSub, hInt2, hMulL, hLt, hLe, hGt, hGe, hNeg, hAbs, hLen, hInt1, hMax2, hMin2, hIx, fSl, oNone, oSome, hSl, fB, toB, fAnd, fOr, fNot, fAndV, fOrV, fNotV, fChain, kName, kTup, kCons, kNil, slOk, sStore, fMt, mtGo, hApp, hFdiv, hMod, hDivmod, outs, List.length_cons, List.length_nil, List.getElem?_cons_zero, List.getElem?_cons_succ, List.getElem?_nil, List.set_cons_zero, List.set_cons_succ, List.replicate_succ, List.replicate_zero, List.cons_append, List.nil_append, Option.bind_some, Option.map_some, cond_true, cond_false, ite_true, ite_false, Nat.reduceAdd, Nat.reduceSub, Nat.reduceEqDiff, Nat.reduceLeDiff, if_true, if_false, reduceIte, atI_n0, atI_n1, atI_n2, atI_n3, ixN_10, ixN_20, ixN_21, hEq_int, hNe_int, Bool.not_true, decide_true, decide_false, hTuple, sTryK, sRaise, Bool.false_eq_true, Bool.not_false, sz0, sz1, sz2, sz3, sz4, sz5, sz6, sz7, sz8, d1, d2, d3, d4, d5, h1, h2, h3, h4, h7, o1, o2, o3, dq, false_and, and_false, Bool.false_eq_true, heq_tt, heq_tf, heq_ft, heq_ff]
        · have dq := decide_eq_false hq
          simp only [d_p_sign_of, mkFn, sCons, sSet, sPar, sUnp, sIf, sRet, sRetN, sDrop, sNil, sBrk, sCnt, bndS, bnd, rt, opt, fVar, fVal, fBin, fUn, rd1, rd2, Rv.rd, Sl.rd, fD, fzM, Rv.fz, fCons, fNil, dCons, dNil, aCons, aNil, aBoxN, aBox, fCall, resolve, boxes, bxpos, wb, fNm, rdAll, fTup, fLst, hAdd, hSub, hInt2, hMulL, hLt, hLe, hGt, hGe, hNeg, hAbs, hLen, hInt1, hMax2, hMin2, hIx, fSl, oNone, oSome, hSl, fB, toB, fAnd, fOr, fNot, fAndV, fOrV, fNotV, fChain, kName, kTup, kCons, kNil, slOk, sStore, fMt, mtGo, hApp, hFdiv, hMod, hDivmod, outs, List.length_cons, List.length_nil, List.getElem?_cons_zero, List.getElem?_cons_succ, List.getElem?_nil, List.set_cons_zero, List.set_cons_succ, List.replicate_succ, List.replicate_zero, List.cons_append, List.nil_append, Option.bind_some, Option.map_some, cond_true, cond_false, ite_true, ite_false, Nat.reduceAdd, Nat.reduceSub, Nat.reduceEqDiff, Nat.reduceLeDiff, if_true, if_false, reduceIte, atI_n0, atI_n1, atI_n2, atI_n3, ixN_10, ixN_20, ixN_21, hEq_int, hNe_int, Bool.not_true, decide_true, decide_false, hTuple, sTryK, sRaise, Bool.false_eq_true, Bool.not_false, sz0, sz1, sz2, sz3, sz4, sz5, sz6, sz7, sz8, d1, d2, d3, d4, d5, h1, h2, h3, h4, h7, o1, o2, o3, dq, false_and, and_false, Bool.false_eq_true, heq_tt, heq_tf, heq_ft, heq_ff]
theorem nm_pless {r A B A' B' : Int} (hr : okRoot r) (h0 : r = 0 → B = 0 ∧ B' = 0) (hA : Bt 800 A) (hB : Bt 800 B) (hA' : Bt 800 A') (hB' : Bt 800 B') : d_p_less [.dat (.int r), .dat (nm A B), .dat (nm A' B')] = some (.inr (false, .bool (negV r (A - A') (B - B'))), [.no, .no, .no]) := by
  have e1 := nm_pminus (.int r) hA hB hA' hB'
  obtain ⟨x, y, z, e3, m⟩ := nm_ex (A - A') (B - B')
  rw [e3] at e1
  have y0 : r = 0 → y = 0 := fun h => by
    obtain ⟨b1, b2⟩ := h0 h
    have := m.h2
    rw [b1, b2] at this
    simp at this
    omega
  have e2 := sign_eq (c := z) hr y0 (m.ba ((hA.sub hA').mono (by decide))) (m.bb ((hB.sub hB').mono (by decide)))
  have e4 : decide (sgV r x y < 0) = negV r (A - A') (B - B') := by
    rw [← negV_scale m.pos m.h1 m.h2]
    unfold sgV
    by_cases h : x = 0 ∧ y = 0
    · rw [if_pos h, h.1, h.2]
      rfl
    · rw [if_neg h]
      cases q : negV r x y <;> simp
  generalize nm A B = N1 at e1 ⊢
  generalize nm A' B' = N2 at e1 ⊢
  simp only [d_p_less, mkFn, sCons, sSet, sPar, sUnp, sIf, sRet, sRetN, sDrop, sNil, sBrk, sCnt, bndS, bnd, rt, opt, fVar, fVal, fBin, fUn, rd1, rd2, Rv.rd, Sl.rd, fD, fzM, Rv.fz, fCons, fNil, dCons, dNil, aCons, aNil, aBoxN, aBox, fCall, resolve, boxes, bxpos, wb, fNm, rdAll, fTup, fLst, hAdd, hSub, hInt2, hMulL, hLt, hLe, hGt, hGe, hNeg, hAbs, hLen, hInt1, hMax2, hMin2, hIx, fSl, oNone, oSome, hSl, fB, toB, fAnd, fOr, fNot, fAndV, fOrV, fNotV, fChain, kName, kTup, kCons, kNil, slOk, sStore, fMt, mtGo, hApp, hFdiv, hMod, hDivmod, outs, List.length_cons, List.length_nil, List.getElem?_cons_zero, List.getElem?_cons_succ, List.getElem?_nil, List.set_cons_zero, List.set_cons_succ, List.replicate_succ, List.replicate_zero, List.cons_append, List.nil_append, Option.bind_some, Option.map_some, cond_true, cond_false, ite_true, ite_false, Nat.reduceAdd, Nat.reduceSub, Nat.reduceEqDiff, Nat.reduceLeDiff, if_true, if_false, reduceIte, atI_n0, atI_n1, atI_n2, atI_n3, ixN_10, ixN_20, ixN_21, hEq_int, hNe_int, Bool.not_true, decide_true, decide_false, hTuple, sTryK, sRaise, Bool.false_eq_true, Bool.not_false, sz0, sz1, sz2, sz3, sz4, sz5, sz6, sz7, sz8, e1, e2, e4]
/-! ### pairs over six -/
abbrev Pr := Int × Int
def nmP (p : Pr) : D := nm p.1 p.2
abbrev chN (r : Int) (L : List Pr) (O : List Int) : D := chD r (L.map nmP) O
theorem hEq_nm (p q : Pr) : hEq (nmP p) (nmP q) = some (.val (.bool (decide (p = q)))) := by
  obtain ⟨a, b, c, e, _⟩ := nm_ex p.1 p.2
  obtain ⟨a', b', c', e', _⟩ := nm_ex q.1 q.2
  unfold nmP
  rw [e, e', hEq_tup3]
  congr 3
  refine decide_eq_decide.mpr ⟨fun h => ?_, fun h => ?_⟩
  · obtain ⟨rfl, rfl, rfl⟩ := h
    have := nm_inj (e.trans e'.symm)
    exact Prod.ext this.1 this.2
  · subst h
    exact tup3_inj (e.symm.trans e')
def subP (p q : Pr) : Pr := (p.1 - q.1, p.2 - q.2)
def addP (p q : Pr) : Pr := (p.1 + q.1, p.2 + q.2)
abbrev BtP (k : Nat) (p : Pr) : Prop := Bt k p.1 ∧ Bt k p.2
def ltP (r : Int) (p q : Pr) : Bool := negV r (p.1 - q.1) (p.2 - q.2)
theorem negP {r : Int} {p q : Pr} : negV r (q.1 - p.1) (q.2 - p.2) = ltP r q p := rfl
structure Okc (r : Int) (k : Nat) (L : List Pr) (O : List Int) : Prop where
  hp : O.Perm (upto L.length)
  h0 : 1 ≤ L.length
  hl : L.length ≤ 400
  bt : ∀ p ∈ L, BtP k p
  z : r = 0 → ∀ p ∈ L, p.2 = 0
def sumI : List Int → Int
  | [] => 0
  | x :: l => x + sumI l
def sumP (L : List Pr) : Pr := (sumI (L.map (·.1)), sumI (L.map (·.2)))
theorem sumI_perm {a b : List Int} (h : a.Perm b) : sumI a = sumI b := by
  induction h with
  | nil => rfl
  | cons x _ ih => show x + sumI _ = x + sumI _; rw [ih]
  | swap x y l => show y + (x + sumI l) = x + (y + sumI l); omega
  | trans _ _ h1 h2 => exact h1.trans h2
theorem sumI_set : ∀ {l : List Int} {i : Nat} {x y : Int}, l[i]? = some x → sumI (l.set i y) = sumI l - x + y
  | [], _, _, _, h => by simp at h
  | z :: l, 0, x, y, h => by
    have : z = x := by simpa using h
    subst this
    show y + sumI l = z + sumI l - z + y
    omega
  | z :: l, i + 1, x, y, h => by
    show z + sumI (l.set i y) = z + sumI l - x + y
    rw [sumI_set (show l[i]? = some x by simpa using h)]
    omega
theorem sumP_perm {a b : List Pr} (h : a.Perm b) : sumP a = sumP b := by
  unfold sumP
  rw [sumI_perm (h.map _), sumI_perm (h.map (·.2))]
theorem sumP_set {L : List Pr} {i : Nat} {p q : Pr} (h : L[i]? = some p) : sumP (L.set i (subP p q)) = subP (sumP L) q := by
  unfold sumP
  rw [List.map_set, List.map_set, sumI_set (x := p.1) (by rw [List.getElem?_map, h]; rfl), sumI_set (x := p.2) (by rw [List.getElem?_map, h]; rfl)]
  unfold subP
  exact Prod.ext (by show _ - p.1 + (p.1 - q.1) = _ - q.1; omega) (by show _ - p.2 + (p.2 - q.2) = _ - q.2; omega)
theorem BtP.sub {k : Nat} {p q : Pr} (h : BtP k p) (h2 : BtP k q) : BtP (k + 1) (subP p q) := ⟨(h.1.sub h2.1).mono (by simp), (h.2.sub h2.2).mono (by simp)⟩
theorem BtP.mono {k m : Nat} {p : Pr} (h : BtP k p) (h2 : k ≤ m) : BtP m p := ⟨Bt.mono h.1 h2, Bt.mono h.2 h2⟩
theorem sub_add (p q : Pr) : (subP p q).1 + q.1 = p.1 ∧ (subP p q).2 + q.2 = p.2 := by unfold subP; exact ⟨by omega, by omega⟩
theorem BtP.add {j k : Nat} {p q : Pr} (h : BtP j p) (h2 : BtP k q) (hk : k ≤ j) : BtP (j + 1) (addP p q) := ⟨(h.1.add h2.1).mono (by omega), (h.2.add h2.2).mono (by omega)⟩
theorem sumP_cons (p : Pr) (L : List Pr) (h : Pr) : addP (addP h p) (sumP L) = addP h (sumP (p :: L)) := by
  unfold addP sumP
  exact Prod.ext (by show h.1 + p.1 + sumI (L.map (·.1)) = h.1 + (p.1 + sumI (L.map (·.1))); omega) (by show h.2 + p.2 + sumI (L.map (·.2)) = h.2 + (p.2 + sumI (L.map (·.2))); omega)
theorem isum_bits : ∀ (L : List Int) (k : Nat), 1 ≤ k → (∀ x ∈ L, Bt k x) → Bt (k + L.length) (sumI L)
  | [], k, hk, _ => Bt.mono (show Bt 1 (0 : Int) by decide) (by omega)
  | x :: L, k, hk, h => by
    have h1 := h x List.mem_cons_self
    have h2 := isum_bits L k hk fun y hy => h y (List.mem_cons_of_mem _ hy)
    have := h1.add h2
    rw [List.length_cons]
    exact Bt.mono this (by omega)
theorem sum_bits {L : List Pr} {k : Nat} (hk : 1 ≤ k) (h : ∀ p ∈ L, BtP k p) : BtP (k + L.length) (sumP L) := by
  constructor
  · have := isum_bits (L.map (·.1)) k hk (fun x hx => by obtain ⟨p, hp, rfl⟩ := List.mem_map.mp hx; exact (h p hp).1)
    rw [List.length_map] at this
    exact this
  · have := isum_bits (L.map (·.2)) k hk (fun x hx => by obtain ⟨p, hp, rfl⟩ := List.mem_map.mp hx; exact (h p hp).2)
    rw [List.length_map] at this
    exact this
theorem isum_pos : ∀ {L : List Int}, L ≠ [] → (∀ x ∈ L, 0 < x) → 0 < sumI L
  | [], h, _ => absurd rfl h
  | [x], _, h => by show 0 < x + 0; have := h x List.mem_cons_self; omega
  | x :: y :: L, _, h => by
    have h1 := h x List.mem_cons_self
    have h2 := isum_pos (L := y :: L) (by simp) fun z hz => h z (List.mem_cons_of_mem _ hz)
    show 0 < x + sumI (y :: L)
    omega
theorem sum_pos {L : List Pr} (h0 : 1 ≤ L.length) (h : ∀ x ∈ L, 0 < x.1) : 0 < (sumP L).1 := by
  refine isum_pos (L := L.map (·.1)) ?_ fun x hx => ?_
  · intro e
    rw [List.map_eq_nil_iff] at e
    rw [e] at h0
    simp at h0
  · obtain ⟨p, hp, rfl⟩ := List.mem_map.mp hx
    exact h p hp
theorem good_nm {r : Int} {x : D} (h : GoodL r x) : ∃ p : Pr, x = nmP p ∧ BtP 10 p ∧ (r = 0 → p.2 = 0 ∧ 0 < p.1) := by
  obtain ⟨a, b, c, rfl, hc, hc3, ha, ha2, hb, hb2, nv, nz, r0, g⟩ := h
  have key : ∀ k : Int, 0 < k → k ≤ 6 → c * k = 6 → ∃ p : Pr, tup3 a b c = nmP p ∧ BtP 10 p ∧ (r = 0 → p.2 = 0 ∧ 0 < p.1) := by
    intro k k0 k6 hk
    have ma : (a * k).natAbs ≤ 54 := by
      rw [Int.natAbs_mul]
      exact Nat.le_trans (Nat.mul_le_mul (show a.natAbs ≤ 9 by omega) (show k.natAbs ≤ 6 by omega)) (by decide)
    have mb : (b * k).natAbs ≤ 54 := by
      rw [Int.natAbs_mul]
      exact Nat.le_trans (Nat.mul_le_mul (show b.natAbs ≤ 9 by omega) (show k.natAbs ≤ 6 by omega)) (by decide)
    refine ⟨(a * k, b * k), (nm_of hc g ?_ ?_).symm, ⟨bits_le (by show (a * k).natAbs < _; omega), bits_le (by show (b * k).natAbs < _; omega)⟩, fun h0 => ?_⟩
    · rw [← hk, Int.mul_comm c k, ← Int.mul_assoc]
    · rw [← hk, Int.mul_comm c k, ← Int.mul_assoc]
    · have b0 := r0 h0
      subst b0
      have ha3 : 0 < a := by
        unfold negV at nv
        by_cases h : 0 ≤ a ∧ (0 : Int) ≤ 0
        · omega
        · rw [if_neg h, if_pos (by omega)] at nv
          cases nv
      exact ⟨Int.zero_mul k, Int.mul_pos ha3 k0⟩
  have : c = 1 ∨ c = 2 ∨ c = 3 := by omega
  rcases this with rfl | rfl | rfl
  · exact key 6 (by decide) (by decide) rfl
  · exact key 3 (by decide) (by decide) rfl
  · exact key 2 (by decide) (by decide) rfl
theorem goods_nm {r : Int} : ∀ {xs : List D}, (∀ x ∈ xs, GoodL r x) → ∃ L : List Pr, xs = L.map nmP ∧ (∀ p ∈ L, BtP 10 p) ∧ (r = 0 → ∀ p ∈ L, p.2 = 0) ∧ (r = 0 → ∀ p ∈ L, 0 < p.1)
  | [], _ => ⟨[], rfl, by simp, by simp, by simp⟩
  | x :: xs, h => by
    obtain ⟨p, rfl, h1, h2⟩ := good_nm (h x List.mem_cons_self)
    obtain ⟨L, rfl, h3, h4, h5⟩ := goods_nm (xs := xs) fun y hy => h y (List.mem_cons_of_mem _ hy)
    refine ⟨p :: L, rfl, fun q hq => ?_, fun r0 q hq => ?_, fun r0 q hq => ?_⟩ <;> rcases List.mem_cons.mp hq with rfl | hq
    · exact h1
    · exact h3 q hq
    · exact (h2 r0).1
    · exact h4 r0 q hq
    · exact (h2 r0).2
    · exact h5 r0 q hq
theorem noB_nm (p : Pr) : noB (nmP p) = true ∧ ∀ k, dpth (k + 1) (nmP p) = true := by
  obtain ⟨a, b, c, e, _⟩ := nm_ex p.1 p.2
  have e' : nmP p = tup3 a b c := e
  rw [e']
  exact ⟨noB_tup3 a b c, fun k => by simp [dpth, dpths]⟩
theorem noB_chN (r : Int) (L : List Pr) (O : List Int) : noB (chN r L O) = true ∧ dpth 3 (chN r L O) = true := by
  have h1 : noBs (L.map nmP) = true := noBs_of fun x hx => by obtain ⟨p, _, rfl⟩ := List.mem_map.mp hx; exact (noB_nm p).1
  have h2 : dpths 1 (L.map nmP) = true := dpths_of fun x hx => by obtain ⟨p, _, rfl⟩ := List.mem_map.mp hx; exact (noB_nm p).2 0
  have h3 := noBs_ints O
  have h4 := dpths_ints 1 O
  simp [noB, noBs, dpth, dpths, h1, h2, h3, h4]
theorem ne_refl {d : D} {k : Nat} (n1 : noB d = true) (n2 : dpth k d = true) (hk : k ≤ 64) : hNe d d = some (.val (.bool false)) := hNe_t (shaped_by k n1 n2 hk) (shaped_by k n1 n2 hk) (eqv_same n1)
theorem ne_nmP (p : Pr) : hNe (nmP p) (nmP p) = some (.val (.bool false)) := ne_refl (noB_nm p).1 ((noB_nm p).2 0) (by decide)
theorem ne_ints (l : List Int) : hNe (.list (l.map PyData.int)) (.list (l.map PyData.int)) = some (.val (.bool false)) := ne_refl (k := 1) (noB_ints l) (by simp only [dpth]; exact dpths_ints 0 l) (by decide)
theorem nmP_inj {p q : Pr} (h : nmP p = nmP q) : p = q := by
  have := nm_inj h
  exact Prod.ext this.1 this.2
theorem nmPs_inj : ∀ {L M : List Pr}, L.map nmP = M.map nmP → L = M
  | [], [], _ => rfl
  | [], _ :: _, h => by simp at h
  | _ :: _, [], h => by simp at h
  | p :: L, q :: M, h => by
    rw [List.map_cons, List.map_cons] at h
    injection h with h1 h2
    rw [nmP_inj h1, nmPs_inj h2]
/-! ### ends, plainly -/
def pre (h : Pr) : List Pr → List Pr
  | [] => []
  | p :: L => addP h p :: pre (addP h p) L
theorem pre_len : ∀ (h : Pr) (L : List Pr), (pre h L).length = L.length
  | _, [] => rfl
  | h, p :: L => by show (pre (addP h p) L).length + 1 = _; rw [pre_len]; rfl
theorem add0 (p : Pr) : addP (0, 0) p = p := by unfold addP; exact Prod.ext (by show 0 + _ = _; omega) (by show 0 + _ = _; omega)
theorem addS0 (p : Pr) : addP p (sumP []) = p := by unfold addP sumP; exact Prod.ext (by show p.1 + 0 = _; omega) (by show p.2 + 0 = _; omega)
theorem pre_get : ∀ {h : Pr} {L : List Pr} {i : Nat}, i < L.length → (pre h L)[i]? = some (addP h (sumP (L.take (i + 1))))
  | _, [], _, hi => by simp at hi
  | h, p :: L, 0, _ => by
    show some (addP h p) = some (addP h (sumP [p]))
    rw [← sumP_cons, addS0]
  | h, p :: L, i + 1, hi => by
    show (pre (addP h p) L)[i]? = _
    rw [pre_get (by simpa using hi), sumP_cons]
    rfl
theorem pre_last {h : Pr} {L : List Pr} (h0 : L ≠ []) : (pre h L).getLast? = some (addP h (sumP L)) := by
  have hl : 0 < L.length := List.length_pos_iff.mpr h0
  rw [List.getLast?_eq_getElem?, pre_len, pre_get (by omega), List.take_of_length_le (by omega)]
theorem BtP.zero {k : Nat} (hk : 1 ≤ k) : BtP k (0, 0) := ⟨Bt.mono (show Bt 1 (0 : Int) by decide) hk, Bt.mono (show Bt 1 (0 : Int) by decide) hk⟩
theorem nm00 : nmP (0, 0) = tup3 0 0 1 := nm_of (by decide) (by decide) (by decide) (by decide)
/-! ### comprehensions over lists of any kind -/
theorem lcL_list {α : Type} {vs : List Nat} {g : D → Fs → Option Fs} {tt : M Bool} {fe : M Rv} (e : α → D) (p : α → Bool) (F : α → D) (fs : Fs) : ∀ (l : List α) (acc : List D), acc.length + l.length ≤ sizeLine →
    (∀ x ∈ l, ∃ fs1 fs2, g (e x) fs = some fs1 ∧ tt fs1 = some (.inr (p x), fs2) ∧ (p x = false → wipeF fs2 vs = fs) ∧ (p x = true → ∃ fs3, fD fe fs2 = some (.inr (F x), fs3) ∧ wipeF fs3 vs = fs)) →
    lcL vs g tt fe (l.map e) acc fs = some (acc ++ (l.filter p).map F, fs)
  | [], acc, _, _ => by simp [lcL]
  | d :: ds, acc, hz, h => by
    rw [List.length_cons] at hz
    obtain ⟨fs1, fs2, h1, h2, h3, h4⟩ := h d List.mem_cons_self
    rw [List.map_cons]
    cases q : p d with
    | true =>
      obtain ⟨fs3, h5, h6⟩ := h4 q
      rw [q] at h2
      rw [lcL_turn h1 h2 h5 (by omega), h6, lcL_list e p F fs ds _ (by rw [List.length_append, List.length_singleton]; omega) fun e he => h e (List.mem_cons_of_mem _ he), List.filter_cons_of_pos q, List.map_cons, List.append_assoc]
      rfl
    | false =>
      rw [q] at h2
      rw [lcL_skip h1 h2, h3 q, lcL_list e p F fs ds _ (by omega) fun e he => h e (List.mem_cons_of_mem _ he), List.filter_cons_of_neg (by rw [q]; decide)]
theorem lcL_all {α : Type} {vs : List Nat} {g : D → Fs → Option Fs} {fe : M Rv} (e : α → D) (F : α → D) (fs : Fs) (l : List α) (hz : l.length ≤ 1000)
    (h : ∀ x ∈ l, ∃ fs1 fs3, g (e x) fs = some fs1 ∧ fD fe fs1 = some (.inr (F x), fs3) ∧ wipeF fs3 vs = fs) :
    lcL vs g tYesF fe (l.map e) [] fs = some (l.map F, fs) := by
  have := lcL_list (vs := vs) (g := g) (tt := tYesF) (fe := fe) e (fun _ => true) F fs l [] (by rw [List.length_nil]; exact szl _ (by omega)) fun d hd => by
    obtain ⟨fs1, fs3, h1, h2, h3⟩ := h d hd
    exact ⟨fs1, fs1, h1, rfl, (fun q => nomatch q), fun _ => ⟨fs3, h2, h3⟩⟩
  rw [this, List.filter_eq_self.mpr (by simp), List.nil_append]
theorem cutL_dl {α : Type} (xs : List α) : cutL xs none (some (-1)) = xs.dropLast := by
  unfold cutL
  have e1 : HT.sIx xs.length xs.length (some (-1)) = xs.length - 1 := by
    unfold HT.sIx
    show (if (-1 : Int) < 0 then _ else _) = _
    rw [if_pos (by decide)]
    omega
  rw [HT.sIx_none, e1, List.drop_zero, Nat.sub_zero, List.dropLast_eq_take]
/-- the numbers below n, as data -/
abbrev uptoD (n : Nat) : List D := (List.range n).map fun i => PyData.int ((i : Nat) : Int)
theorem uptoD_eq (n : Nat) : (upto n).map PyData.int = uptoD n := by
  unfold upto uptoD
  rw [List.map_map]
  rfl
theorem fiR1_nat {f : M (List D)} {fs fs1 : Fs} {n : Nat} (hn : n ≤ 5000) (e : f fs = some (.inr [.int (n : Nat)], fs1)) : fiR1 f fs = some (.inr (uptoD n), fs1) := by
  have h1 : smI ((n : Nat) : Int) = true := smI_of (by omega) (by omega)
  unfold fiR1
  rw [bnd_inr e]
  simp only [h1, cond_true, rng_upto, Int.toNat_natCast, uptoD_eq]
/-- the numbers from 1 up to n -/
theorem fiR2_nat {f : M (List D)} {fs fs1 : Fs} {n : Nat} (hn : n ≤ 5000) (e : f fs = some (.inr [.int 1, .int (n : Nat)], fs1)) : fiR2 f fs = some (.inr ((List.range (n - 1)).map fun i => PyData.int ((i + 1 : Nat) : Int)), fs1) := by
  have h1 : smI ((n : Nat) : Int) = true := smI_of (by omega) (by omega)
  have h2 : smI 1 = true := smI_of (by omega) (by omega)
  have h3 : ((n : Int) - 1).toNat = n - 1 := by omega
  unfold fiR2
  rw [bnd_inr e]
  simp only [h1, h2, Bool.and_self, cond_true, rng, h3]
  have : (fun i : Nat => PyData.int (1 + ((i : Nat) : Int))) = fun i : Nat => PyData.int ((i + 1 : Nat) : Int) := by
    funext i
    congr 1
    omega
  rw [this]
/-! ### isinstance of any thing -/
theorem isi_kit {d : D} {T : String} {b : Bool} (hs : notScr d = true) (h : kitB (tyN d) T = some b) : hIsi T d = some (.val (.bool b)) := by
  unfold hIsi
  rw [hs, h]; rfl
theorem isi_odd {d : D} (hs : notScr d = true) : (∃ i, d = .int i) ∨ (∃ b, d = .bool b) ∨ hIsi "int" d = some (.val (.bool false)) := by
  cases d with
  | int i => exact .inl ⟨i, rfl⟩
  | bool b => exact .inr (.inl ⟨b, rfl⟩)
  | none => exact .inr (.inr (isi_kit hs (by decide +kernel)))
  | str x => exact .inr (.inr (isi_kit hs (show kitB "str" "int" = some false by decide +kernel)))
  | list x => exact .inr (.inr (isi_kit hs (show kitB "list" "int" = some false by decide +kernel)))
  | tuple x => exact .inr (.inr (isi_kit hs (show kitB "tuple" "int" = some false by decide +kernel)))
  | dict x => exact .inr (.inr (isi_kit hs (show kitB "dict" "int" = some false by decide +kernel)))
theorem isi_bool (b : Bool) : hIsi "int" (.bool b) = some (.val (.bool true)) ∧ hIsi "bool" (.bool b) = some (.val (.bool true)) :=
  ⟨isi_kit rfl (show kitB "bool" "int" = some true by decide +kernel), isi_kit rfl (show kitB "bool" "bool" = some true by decide +kernel)⟩
theorem isi_ntup {d : D} (hs : notScr d = true) : (∃ ds, d = .tuple ds) ∨ hIsi "tuple" d = some (.val (.bool false)) := by
  cases d with
  | tuple x => exact .inl ⟨x, rfl⟩
  | int i => exact .inr (isi_kit hs (show kitB "int" "tuple" = some false by decide +kernel))
  | bool b => exact .inr (isi_kit hs (show kitB "bool" "tuple" = some false by decide +kernel))
  | none => exact .inr (isi_kit hs (show kitB "NoneType" "tuple" = some false by decide +kernel))
  | str x => exact .inr (isi_kit hs (show kitB "str" "tuple" = some false by decide +kernel))
  | list x => exact .inr (isi_kit hs (show kitB "list" "tuple" = some false by decide +kernel))
  | dict x => exact .inr (isi_kit hs (show kitB "dict" "tuple" = some false by decide +kernel))
theorem isi_nlist {d : D} (hs : notScr d = true) : (∃ ds, d = .list ds) ∨ hIsi "list" d = some (.val (.bool false)) := by
  cases d with
  | list x => exact .inl ⟨x, rfl⟩
  | int i => exact .inr (isi_kit hs (show kitB "int" "list" = some false by decide +kernel))
  | bool b => exact .inr (isi_kit hs (show kitB "bool" "list" = some false by decide +kernel))
  | none => exact .inr (isi_kit hs (show kitB "NoneType" "list" = some false by decide +kernel))
  | str x => exact .inr (isi_kit hs (show kitB "str" "list" = some false by decide +kernel))
  | tuple x => exact .inr (isi_kit hs (show kitB "tuple" "list" = some false by decide +kernel))
  | dict x => exact .inr (isi_kit hs (show kitB "dict" "list" = some false by decide +kernel))
theorem ne_bool (b : Bool) : hNe (.bool b) (.bool b) = some (.val (.bool false)) := by
  cases b <;> rfl
theorem hAll_map {α : Type} (F : α → Bool) (l : List α) : hAll [.list (l.map fun x => .bool (F x))] = some (.val (.bool (l.all F))) := by
  have h : ∀ l : List α, asBools (l.map fun x => PyData.bool (F x)) = some (l.map F) := by
    intro l
    induction l with
    | nil => rfl
    | cons x l ih => show (asBools (l.map fun x => PyData.bool (F x))).map _ = _; rw [ih]; rfl
  simp only [hAll, h]
  rw [List.all_map]; rfl
theorem hAny_map {α : Type} (F : α → Bool) (l : List α) : hAny [.list (l.map fun x => .bool (F x))] = some (.val (.bool (l.any F))) := by
  have h : ∀ l : List α, asBools (l.map fun x => PyData.bool (F x)) = some (l.map F) := by
    intro l
    induction l with
    | nil => rfl
    | cons x l ih => show (asBools (l.map fun x => PyData.bool (F x))).map _ = _; rw [ih]; rfl
  simp only [hAny, h]
  rw [List.any_map]; rfl
theorem cut_mem {α : Type} {xs : List α} {lo hi : Option Int} {x : α} (h : x ∈ cutL xs lo hi) : x ∈ xs := by
  unfold cutL at h
  exact List.mem_of_mem_drop (List.mem_of_mem_take h)
theorem cut_len {α : Type} (xs : List α) (lo hi : Option Int) : (cutL xs lo hi).length ≤ xs.length := by
  unfold cutL
  rw [List.length_take, List.length_drop]
  omega
theorem pick_all {P : D → Prop} {l : List D} {d : Nat} (h : ∀ x ∈ l, P x) (hd : d < l.length) : ∃ x, atI l ((d : Nat) : Int) = some x ∧ P x :=
  ⟨l[d], by rw [atI_natE, List.getElem?_eq_getElem hd], h _ (List.getElem_mem hd)⟩
theorem isi_lst (ds : List D) : hIsi "list" (.list ds) = some (.val (.bool true)) := isi_kit rfl (show kitB "list" "list" = some true by decide +kernel)
/-! ### the program's look at numbers -/
def isI : D → Bool
  | .int _ => true
  | _ => false
theorem iswhole_any' {d : D} (hd : notScr d = true) : d_p_is_whole [.dat d] = some (.inr (false, .bool (isI d)), [.no]) := by
  rcases isi_odd hd with ⟨i, rfl⟩ | ⟨b, rfl⟩ | h
  · obtain ⟨h1, h2⟩ := isi_ok i
    simp only [d_p_is_whole, mkFn, sCons, sSet, sPar, sUnp, sIf, sRet, sRetN, sDrop, sNil, sBrk, sCnt, bndS, bnd, rt, opt, fVar, fVal, fBin, fUn, rd1, rd2, Rv.rd, Sl.rd, fD, fzM, Rv.fz, fCons, fNil, dCons, dNil, aCons, aNil, aBoxN, aBox, fCall, resolve, boxes, bxpos, wb, fNm, rdAll, fTup, fLst, hAdd, hSub, hInt2, hMulL, hLt, hLe, hGt, hGe, hNeg, hAbs, hLen, hInt1, hMax2, hMin2, hIx, fSl, oNone, oSome, hSl, fB, toB, fAnd, fOr, fNot, fAndV, fOrV, fNotV, fChain, kName, kTup, kCons, kNil, slOk, sStore, fMt, mtGo, hApp, hFdiv, hMod, hDivmod, outs, List.length_cons, List.length_nil, List.getElem?_cons_zero, List.getElem?_cons_succ, List.getElem?_nil, List.set_cons_zero, List.set_cons_succ, List.replicate_succ, List.replicate_zero, List.cons_append, List.nil_append, Option.bind_some, Option.map_some, cond_true, cond_false, ite_true, ite_false, Nat.reduceAdd, Nat.reduceSub, Nat.reduceEqDiff, Nat.reduceLeDiff, if_true, if_false, reduceIte, atI_n0, atI_n1, atI_n2, atI_n3, ixN_10, ixN_20, ixN_21, hEq_int, hNe_int, Bool.not_true, decide_true, decide_false, hTuple, sTryK, sRaise, Bool.false_eq_true, Bool.not_false, sz0, sz1, sz2, sz3, sz4, sz5, sz6, sz7, sz8, h1, h2, isI]
  · obtain ⟨h1, h2⟩ := isi_bool b
    simp only [d_p_is_whole, mkFn, sCons, sSet, sPar, sUnp, sIf, sRet, sRetN, sDrop, sNil, sBrk, sCnt, bndS, bnd, rt, opt, fVar, fVal, fBin, fUn, rd1, rd2, Rv.rd, Sl.rd, fD, fzM, Rv.fz, fCons, fNil, dCons, dNil, aCons, aNil, aBoxN, aBox, fCall, resolve, boxes, bxpos, wb, fNm, rdAll, fTup, fLst, hAdd, hSub, hInt2, hMulL, hLt, hLe, hGt, hGe, hNeg, hAbs, hLen, hInt1, hMax2, hMin2, hIx, fSl, oNone, oSome, hSl, fB, toB, fAnd, fOr, fNot, fAndV, fOrV, fNotV, fChain, kName, kTup, kCons, kNil, slOk, sStore, fMt, mtGo, hApp, hFdiv, hMod, hDivmod, outs, List.length_cons, List.length_nil, List.getElem?_cons_zero, List.getElem?_cons_succ, List.getElem?_nil, List.set_cons_zero, List.set_cons_succ, List.replicate_succ, List.replicate_zero, List.cons_append, List.nil_append, Option.bind_some, Option.map_some, cond_true, cond_false, ite_true, ite_false, Nat.reduceAdd, Nat.reduceSub, Nat.reduceEqDiff, Nat.reduceLeDiff, if_true, if_false, reduceIte, atI_n0, atI_n1, atI_n2, atI_n3, ixN_10, ixN_20, ixN_21, hEq_int, hNe_int, Bool.not_true, decide_true, decide_false, hTuple, sTryK, sRaise, Bool.false_eq_true, Bool.not_false, sz0, sz1, sz2, sz3, sz4, sz5, sz6, sz7, sz8, h1, h2, isI]
  · cases d with
    | int i => rw [(isi_ok i).1] at h; cases h
    | bool b => rw [(isi_bool b).1] at h; cases h
    | _ => simp only [d_p_is_whole, mkFn, sCons, sSet, sPar, sUnp, sIf, sRet, sRetN, sDrop, sNil, sBrk, sCnt, bndS, bnd, rt, opt, fVar, fVal, fBin, fUn, rd1, rd2, Rv.rd, Sl.rd, fD, fzM, Rv.fz, fCons, fNil, dCons, dNil, aCons, aNil, aBoxN, aBox, fCall, resolve, boxes, bxpos, wb, fNm, rdAll, fTup, fLst, hAdd, hSub, hInt2, hMulL, hLt, hLe, hGt, hGe, hNeg, hAbs, hLen, hInt1, hMax2, hMin2, hIx, fSl, oNone, oSome, hSl, fB, toB, fAnd, fOr, fNot, fAndV, fOrV, fNotV, fChain, kName, kTup, kCons, kNil, slOk, sStore, fMt, mtGo, hApp, hFdiv, hMod, hDivmod, outs, List.length_cons, List.length_nil, List.getElem?_cons_zero, List.getElem?_cons_succ, List.getElem?_nil, List.set_cons_zero, List.set_cons_succ, List.replicate_succ, List.replicate_zero, List.cons_append, List.nil_append, Option.bind_some, Option.map_some, cond_true, cond_false, ite_true, ite_false, Nat.reduceAdd, Nat.reduceSub, Nat.reduceEqDiff, Nat.reduceLeDiff, if_true, if_false, reduceIte, atI_n0, atI_n1, atI_n2, atI_n3, ixN_10, ixN_20, ixN_21, hEq_int, hNe_int, Bool.not_true, decide_true, decide_false, hTuple, sTryK, sRaise, Bool.false_eq_true, Bool.not_false, sz0, sz1, sz2, sz3, sz4, sz5, sz6, sz7, sz8, h, isI]
/-- which things are numbers of a root -/
def isNumB (r : Int) : D → Bool
  | .tuple [.int a, .int b, .int c] => decide (1 ≤ c) && !(decide (r = 0) && !decide (b = 0)) && decide (g3 a b c = 1)
  | _ => false
theorem low_self {a b c : Int} (hc : 0 < c) (g : g3 a b c = 1) : lowD a b c = tup3 a b c := low_eq hc hc g rfl rfl
theorem low_self_iff {a b c : Int} (hc : 0 < c) : hEq (lowD a b c) (tup3 a b c) = some (.val (.bool (decide (g3 a b c = 1)))) := by
  unfold lowD
  rw [hEq_tup3]
  congr 3
  by_cases g : g3 a b c = 1
  · rw [decide_eq_true g, g]
    exact decide_eq_true ⟨Int.fdiv_one a, Int.fdiv_one b, Int.fdiv_one c⟩
  · rw [decide_eq_false g]
    refine decide_eq_false fun h => g ?_
    have hg := g3_pos (a := a) (b := b) hc
    have e := fdiv_exact (g3_dvd a b c).2.2
    rw [h.2.2] at e
    have : c * (((g3 a b c : Nat) : Int)) = c * 1 := by rw [e, Int.mul_one]
    have := Int.eq_of_mul_eq_mul_left (by omega) this
    omega
theorem isnum_any {r : Int} {d : D} (hs : notScr d = true) (hd : ∀ ds, d = .tuple ds → ∀ e ∈ ds, notScr e = true ∧ ∀ i, e = .int i → Bt 9000 i) : d_p_is_number [.dat (.int r), .dat d] = some (.inr (false, .bool (isNumB r d)), [.no, .no]) := by
  rcases isi_ntup hs with ⟨ds, rfl⟩ | e
  · have e2 := isi_tup ds
    have hd := hd ds rfl
    by_cases hl : ds.length = 3
    · match ds, hl with
      | [x, y, z], _ =>
        have dl : (!decide ((((([x, y, z] : List D).length : Nat) : Int)) = 3)) = false := rfl
        obtain ⟨n1, b1⟩ := hd x (by simp)
        obtain ⟨n2, b2⟩ := hd y (by simp)
        obtain ⟨n3, b3⟩ := hd z (by simp)
        have el := lcL_all (vs := [2]) (g := kName 2) (fe := fCall d_p_is_whole (aCons (fVar 2) aNil)) (fun d : D => d) (fun d => .bool (isI d)) [.dat (.int r), .dat (.tuple [x, y, z]), .no] [x, y, z] (by show (3 : Nat) ≤ 1000; decide) (by
          intro d h
          have hn : notScr d = true := (hd d h).1
          have ew := iswhole_any' hn
          refine ⟨[.dat (.int r), .dat (.tuple [x, y, z]), .dat d], [.dat (.int r), .dat (.tuple [x, y, z]), .dat d], rfl, ?_, rfl⟩
          simp only [mkFn, sCons, sSet, sPar, sUnp, sIf, sRet, sRetN, sDrop, sNil, sBrk, sCnt, bndS, bnd, rt, opt, fVar, fVal, fBin, fUn, rd1, rd2, Rv.rd, Sl.rd, fD, fzM, Rv.fz, fCons, fNil, dCons, dNil, aCons, aNil, aBoxN, aBox, fCall, resolve, boxes, bxpos, wb, fNm, rdAll, fTup, fLst, hAdd, hSub, hInt2, hMulL, hLt, hLe, hGt, hGe, hNeg, hAbs, hLen, hInt1, hMax2, hMin2, hIx, fSl, oNone, oSome, hSl, fB, toB, fAnd, fOr, fNot, fAndV, fOrV, fNotV, fChain, kName, kTup, kCons, kNil, slOk, sStore, fMt, mtGo, hApp, hFdiv, hMod, hDivmod, outs, List.length_cons, List.length_nil, List.getElem?_cons_zero, List.getElem?_cons_succ, List.getElem?_nil, List.set_cons_zero, List.set_cons_succ, List.replicate_succ, List.replicate_zero, List.cons_append, List.nil_append, Option.bind_some, Option.map_some, cond_true, cond_false, ite_true, ite_false, Nat.reduceAdd, Nat.reduceSub, Nat.reduceEqDiff, Nat.reduceLeDiff, if_true, if_false, reduceIte, atI_n0, atI_n1, atI_n2, atI_n3, ixN_10, ixN_20, ixN_21, hEq_int, hNe_int, Bool.not_true, decide_true, decide_false, hTuple, sTryK, sRaise, Bool.false_eq_true, Bool.not_false, sz0, sz1, sz2, sz3, sz4, sz5, sz6, sz7, sz8, ew])
        rw [List.map_id'] at el
        have ec := fLc_of (f := fiS (fD (fVar 1))) (ds := [x, y, z]) (fs := [.dat (.int r), .dat (.tuple [x, y, z]), .no]) (fs1 := [.dat (.int r), .dat (.tuple [x, y, z]), .no]) (by simp only [fiS, asS, mkFn, sCons, sSet, sPar, sUnp, sIf, sRet, sRetN, sDrop, sNil, sBrk, sCnt, bndS, bnd, rt, opt, fVar, fVal, fBin, fUn, rd1, rd2, Rv.rd, Sl.rd, fD, fzM, Rv.fz, fCons, fNil, dCons, dNil, aCons, aNil, aBoxN, aBox, fCall, resolve, boxes, bxpos, wb, fNm, rdAll, fTup, fLst, hAdd, hSub, hInt2, hMulL, hLt, hLe, hGt, hGe, hNeg, hAbs, hLen, hInt1, hMax2, hMin2, hIx, fSl, oNone, oSome, hSl, fB, toB, fAnd, fOr, fNot, fAndV, fOrV, fNotV, fChain, kName, kTup, kCons, kNil, slOk, sStore, fMt, mtGo, hApp, hFdiv, hMod, hDivmod, outs, List.length_cons, List.length_nil, List.getElem?_cons_zero, List.getElem?_cons_succ, List.getElem?_nil, List.set_cons_zero, List.set_cons_succ, List.replicate_succ, List.replicate_zero, List.cons_append, List.nil_append, Option.bind_some, Option.map_some, cond_true, cond_false, ite_true, ite_false, Nat.reduceAdd, Nat.reduceSub, Nat.reduceEqDiff, Nat.reduceLeDiff, if_true, if_false, reduceIte, atI_n0, atI_n1, atI_n2, atI_n3, ixN_10, ixN_20, ixN_21, hEq_int, hNe_int, Bool.not_true, decide_true, decide_false, hTuple, sTryK, sRaise, Bool.false_eq_true, Bool.not_false, sz0, sz1, sz2, sz3, sz4, sz5, sz6, sz7, sz8]) el
        have ha := hAll_map isI [x, y, z]
        generalize hB : List.map (fun d => PyData.bool (isI d)) [x, y, z] = B at ec ha
        have st1 : ∀ b : Bool, hAll [.list B] = some (.val (.bool b)) → sIf (fOr (fNot (fB (fUn (hIsi "tuple") (fVar 1)))) (fOr (fB (fBin hNe (fNm hLen (fCons (fVar 1) fNil)) (fVal (.int 3)))) (fNot (fB (fNm hAll (fCons (fLc [2] (fiS (fD (fVar 1))) (kName 2) tYesF (fCall d_p_is_whole (aCons (fVar 2) aNil))) fNil)))))) (sRet (fVal (.bool false))) sNil [.dat (.int r), .dat (.tuple [x, y, z]), .no] = if b = true then some (.nx, [.dat (.int r), .dat (.tuple [x, y, z]), .no]) else some (.ret false (.bool false), [.dat (.int r), .dat (.tuple [x, y, z]), .no]) := by
          intro b hb
          generalize fLc [2] _ _ _ _ = E at ec ⊢
          generalize [x, y, z] = DS at *
          cases b <;> simp only [mkFn, sCons, sSet, sPar, sUnp, sIf, sRet, sRetN, sDrop, sNil, sBrk, sCnt, bndS, bnd, rt, opt, fVar, fVal, fBin, fUn, rd1, rd2, Rv.rd, Sl.rd, fD, fzM, Rv.fz, fCons, fNil, dCons, dNil, aCons, aNil, aBoxN, aBox, fCall, resolve, boxes, bxpos, wb, fNm, rdAll, fTup, fLst, hAdd, hSub, hInt2, hMulL, hLt, hLe, hGt, hGe, hNeg, hAbs, hLen, hInt1, hMax2, hMin2, hIx, fSl, oNone, oSome, hSl, fB, toB, fAnd, fOr, fNot, fAndV, fOrV, fNotV, fChain, kName, kTup, kCons, kNil, slOk, sStore, fMt, mtGo, hApp, hFdiv, hMod, hDivmod, outs, List.length_cons, List.length_nil, List.getElem?_cons_zero, List.getElem?_cons_succ, List.getElem?_nil, List.set_cons_zero, List.set_cons_succ, List.replicate_succ, List.replicate_zero, List.cons_append, List.nil_append, Option.bind_some, Option.map_some, cond_true, cond_false, ite_true, ite_false, Nat.reduceAdd, Nat.reduceSub, Nat.reduceEqDiff, Nat.reduceLeDiff, if_true, if_false, reduceIte, atI_n0, atI_n1, atI_n2, atI_n3, ixN_10, ixN_20, ixN_21, hEq_int, hNe_int, Bool.not_true, decide_true, decide_false, hTuple, sTryK, sRaise, Bool.false_eq_true, Bool.not_false, sz0, sz1, sz2, sz3, sz4, sz5, sz6, sz7, sz8, e2, dl, ec, hb]
        have key : ∀ b, ([x, y, z].all isI) = b → (b = false → isNumB r (.tuple [x, y, z]) = false) := by
          intro b hb hf
          subst hf
          unfold isNumB
          split
          · rename_i he
            injection he with he
            obtain ⟨rfl, rfl, rfl⟩ : x = _ ∧ y = _ ∧ z = _ := by simpa using he
            simp [isI] at hb
          · rfl
        cases hall : [x, y, z].all isI with
        | false =>
          rw [hall] at ha
          rw [key _ hall rfl]
          unfold d_p_is_number
          refine mkFn_ret (fs := [.dat (.int r), .dat (.tuple [x, y, z]), .no]) rfl ?_
          exact sCons_ret (st1 false ha)
        | true =>
          rw [hall] at ha
          have hx : ∃ a b c : Int, x = .int a ∧ y = .int b ∧ z = .int c := by
            simp only [List.all_cons, List.all_nil, Bool.and_true, Bool.and_eq_true] at hall
            obtain ⟨h1, h2, h3⟩ := hall
            cases x <;> simp [isI] at h1
            cases y <;> simp [isI] at h2
            cases z <;> simp [isI] at h3
            exact ⟨_, _, _, rfl, rfl, rfl⟩
          obtain ⟨a, b, c, rfl, rfl, rfl⟩ := hx
          have bc := b3 c rfl
          unfold d_p_is_number
          refine mkFn_ret (fs := [.dat (.int r), .dat (.tuple [.int a, .int b, .int c]), .no]) rfl ?_
          show sCons _ _ [.dat (.int r), .dat (.tuple [.int a, .int b, .int c]), .no] = _
          rw [sCons_nx (fs1 := [.dat (.int r), .dat (.tuple [.int a, .int b, .int c]), .no]) (st1 true ha)]
          have i2 : atI [PyData.int a, .int b, .int c] 2 = some (.int c) := rfl
          have i1 : atI [PyData.int a, .int b, .int c] 1 = some (.int b) := rfl
          have i0 : atI [PyData.int a, .int b, .int c] 0 = some (.int a) := rfl
          have eN : isNumB r (.tuple [.int a, .int b, .int c]) = (decide (1 ≤ c) && !(decide (r = 0) && !decide (b = 0)) && decide (g3 a b c = 1)) := rfl
          rw [eN]
          by_cases c1 : c < 1
          · have d1 : decide (c < 1) = true := decide_eq_true c1
            rw [decide_eq_false (show ¬ (1 : Int) ≤ c by omega)]
            exact sCons_ret (by simp only [mkFn, sCons, sSet, sPar, sUnp, sIf, sRet, sRetN, sDrop, sNil, sBrk, sCnt, bndS, bnd, rt, opt, fVar, fVal, fBin, fUn, rd1, rd2, Rv.rd, Sl.rd, fD, fzM, Rv.fz, fCons, fNil, dCons, dNil, aCons, aNil, aBoxN, aBox, fCall, resolve, boxes, bxpos, wb, fNm, rdAll, fTup, fLst, hAdd, hSub, hInt2, hMulL, hLt, hLe, hGt, hGe, hNeg, hAbs, hLen, hInt1, hMax2, hMin2, hIx, fSl, oNone, oSome, hSl, fB, toB, fAnd, fOr, fNot, fAndV, fOrV, fNotV, fChain, kName, kTup, kCons, kNil, slOk, sStore, fMt, mtGo, hApp, hFdiv, hMod, hDivmod, outs, List.length_cons, List.length_nil, List.getElem?_cons_zero, List.getElem?_cons_succ, List.getElem?_nil, List.set_cons_zero, List.set_cons_succ, List.replicate_succ, List.replicate_zero, List.cons_append, List.nil_append, Option.bind_some, Option.map_some, cond_true, cond_false, ite_true, ite_false, Nat.reduceAdd, Nat.reduceSub, Nat.reduceEqDiff, Nat.reduceLeDiff, if_true, if_false, reduceIte, atI_n0, atI_n1, atI_n2, atI_n3, ixN_10, ixN_20, ixN_21, hEq_int, hNe_int, Bool.not_true, decide_true, decide_false, hTuple, sTryK, sRaise, Bool.false_eq_true, Bool.not_false, sz0, sz1, sz2, sz3, sz4, sz5, sz6, sz7, sz8, i2, d1]; rfl)
          · have d1 : decide (c < 1) = false := decide_eq_false c1
            rw [decide_eq_true (show (1 : Int) ≤ c by omega)]
            have hc : 0 < c := by omega
            have el := lowest_eq (a := a) (b := b) hc bc
            have eq := low_self_iff (a := a) (b := b) hc
            cases q : (decide (r = 0) && !decide (b = 0)) with
            | true =>
              rw [Bool.and_eq_true] at q
              have q1 := q.1
              have q2 : decide (b = 0) = false := by simpa using q.2
              exact sCons_ret (by simp only [mkFn, sCons, sSet, sPar, sUnp, sIf, sRet, sRetN, sDrop, sNil, sBrk, sCnt, bndS, bnd, rt, opt, fVar, fVal, fBin, fUn, rd1, rd2, Rv.rd, Sl.rd, fD, fzM, Rv.fz, fCons, fNil, dCons, dNil, aCons, aNil, aBoxN, aBox, fCall, resolve, boxes, bxpos, wb, fNm, rdAll, fTup, fLst, hAdd, hSub, hInt2, hMulL, hLt, hLe, hGt, hGe, hNeg, hAbs, hLen, hInt1, hMax2, hMin2, hIx, fSl, oNone, oSome, hSl, fB, toB, fAnd, fOr, fNot, fAndV, fOrV, fNotV, fChain, kName, kTup, kCons, kNil, slOk, sStore, fMt, mtGo, hApp, hFdiv, hMod, hDivmod, outs, List.length_cons, List.length_nil, List.getElem?_cons_zero, List.getElem?_cons_succ, List.getElem?_nil, List.set_cons_zero, List.set_cons_succ, List.replicate_succ, List.replicate_zero, List.cons_append, List.nil_append, Option.bind_some, Option.map_some, cond_true, cond_false, ite_true, ite_false, Nat.reduceAdd, Nat.reduceSub, Nat.reduceEqDiff, Nat.reduceLeDiff, if_true, if_false, reduceIte, atI_n0, atI_n1, atI_n2, atI_n3, ixN_10, ixN_20, ixN_21, hEq_int, hNe_int, Bool.not_true, decide_true, decide_false, hTuple, sTryK, sRaise, Bool.false_eq_true, Bool.not_false, sz0, sz1, sz2, sz3, sz4, sz5, sz6, sz7, sz8, i2, i1, d1, q1, q2]; rfl)
            | false =>
              rw [sCons_nx (fs1 := [.dat (.int r), .dat (.tuple [.int a, .int b, .int c]), .no]) (by
                cases q1 : decide (r = 0) with
                | false => simp only [mkFn, sCons, sSet, sPar, sUnp, sIf, sRet, sRetN, sDrop, sNil, sBrk, sCnt, bndS, bnd, rt, opt, fVar, fVal, fBin, fUn, rd1, rd2, Rv.rd, Sl.rd, fD, fzM, Rv.fz, fCons, fNil, dCons, dNil, aCons, aNil, aBoxN, aBox, fCall, resolve, boxes, bxpos, wb, fNm, rdAll, fTup, fLst, hAdd, hSub, hInt2, hMulL, hLt, hLe, hGt, hGe, hNeg, hAbs, hLen, hInt1, hMax2, hMin2, hIx, fSl, oNone, oSome, hSl, fB, toB, fAnd, fOr, fNot, fAndV, fOrV, fNotV, fChain, kName, kTup, kCons, kNil, slOk, sStore, fMt, mtGo, hApp, hFdiv, hMod, hDivmod, outs, List.length_cons, List.length_nil, List.getElem?_cons_zero, List.getElem?_cons_succ, List.getElem?_nil, List.set_cons_zero, List.set_cons_succ, List.replicate_succ, List.replicate_zero, List.cons_append, List.nil_append, Option.bind_some, Option.map_some, cond_true, cond_false, ite_true, ite_false, Nat.reduceAdd, Nat.reduceSub, Nat.reduceEqDiff, Nat.reduceLeDiff, if_true, if_false, reduceIte, atI_n0, atI_n1, atI_n2, atI_n3, ixN_10, ixN_20, ixN_21, hEq_int, hNe_int, Bool.not_true, decide_true, decide_false, hTuple, sTryK, sRaise, Bool.false_eq_true, Bool.not_false, sz0, sz1, sz2, sz3, sz4, sz5, sz6, sz7, sz8, i2, i1, d1, q1]
                | true =>
                  rw [q1, Bool.true_and] at q
                  have q2 : decide (b = 0) = true := by simpa using q
                  simp only [mkFn, sCons, sSet, sPar, sUnp, sIf, sRet, sRetN, sDrop, sNil, sBrk, sCnt, bndS, bnd, rt, opt, fVar, fVal, fBin, fUn, rd1, rd2, Rv.rd, Sl.rd, fD, fzM, Rv.fz, fCons, fNil, dCons, dNil, aCons, aNil, aBoxN, aBox, fCall, resolve, boxes, bxpos, wb, fNm, rdAll, fTup, fLst, hAdd, hSub, hInt2, hMulL, hLt, hLe, hGt, hGe, hNeg, hAbs, hLen, hInt1, hMax2, hMin2, hIx, fSl, oNone, oSome, hSl, fB, toB, fAnd, fOr, fNot, fAndV, fOrV, fNotV, fChain, kName, kTup, kCons, kNil, slOk, sStore, fMt, mtGo, hApp, hFdiv, hMod, hDivmod, outs, List.length_cons, List.length_nil, List.getElem?_cons_zero, List.getElem?_cons_succ, List.getElem?_nil, List.set_cons_zero, List.set_cons_succ, List.replicate_succ, List.replicate_zero, List.cons_append, List.nil_append, Option.bind_some, Option.map_some, cond_true, cond_false, ite_true, ite_false, Nat.reduceAdd, Nat.reduceSub, Nat.reduceEqDiff, Nat.reduceLeDiff, if_true, if_false, reduceIte, atI_n0, atI_n1, atI_n2, atI_n3, ixN_10, ixN_20, ixN_21, hEq_int, hNe_int, Bool.not_true, decide_true, decide_false, hTuple, sTryK, sRaise, Bool.false_eq_true, Bool.not_false, sz0, sz1, sz2, sz3, sz4, sz5, sz6, sz7, sz8, i2, i1, d1, q1, q2])]
              have el' : d_p_lowest [.dat (.int a), .dat (.int b), .dat (.int c)] = some (.inr (false, lowD a b c), [.no, .no, .no]) := el
              have eq' : hEq (lowD a b c) (.tuple [.int a, .int b, .int c]) = some (.val (.bool (decide (g3 a b c = 1)))) := eq
              generalize lowD a b c = LD at *
              simp only [mkFn, sCons, sSet, sPar, sUnp, sIf, sRet, sRetN, sDrop, sNil, sBrk, sCnt, bndS, bnd, rt, opt, fVar, fVal, fBin, fUn, rd1, rd2, Rv.rd, Sl.rd, fD, fzM, Rv.fz, fCons, fNil, dCons, dNil, aCons, aNil, aBoxN, aBox, fCall, resolve, boxes, bxpos, wb, fNm, rdAll, fTup, fLst, hAdd, hSub, hInt2, hMulL, hLt, hLe, hGt, hGe, hNeg, hAbs, hLen, hInt1, hMax2, hMin2, hIx, fSl, oNone, oSome, hSl, fB, toB, fAnd, fOr, fNot, fAndV, fOrV, fNotV, fChain, kName, kTup, kCons, kNil, slOk, sStore, fMt, mtGo, hApp, hFdiv, hMod, hDivmod, outs, List.length_cons, List.length_nil, List.getElem?_cons_zero, List.getElem?_cons_succ, List.getElem?_nil, List.set_cons_zero, List.set_cons_succ, List.replicate_succ, List.replicate_zero, List.cons_append, List.nil_append, Option.bind_some, Option.map_some, cond_true, cond_false, ite_true, ite_false, Nat.reduceAdd, Nat.reduceSub, Nat.reduceEqDiff, Nat.reduceLeDiff, if_true, if_false, reduceIte, atI_n0, atI_n1, atI_n2, atI_n3, ixN_10, ixN_20, ixN_21, hEq_int, hNe_int, Bool.not_true, decide_true, decide_false, hTuple, sTryK, sRaise, Bool.false_eq_true, Bool.not_false, sz0, sz1, sz2, sz3, sz4, sz5, sz6, sz7, sz8, i0, i1, i2, el', eq', Bool.true_and]
    · have dl : (!decide ((((ds.length : Nat) : Int)) = 3)) = true := by rw [decide_eq_false (by omega)]; rfl
      have eN : isNumB r (.tuple ds) = false := by
        unfold isNumB
        split
        · rename_i he
          injection he with he
          rw [he] at hl
          exact absurd rfl hl
        · rfl
      rw [eN]
      unfold d_p_is_number
      generalize fLc [2] _ _ _ _ = E
      simp only [mkFn, sCons, sSet, sPar, sUnp, sIf, sRet, sRetN, sDrop, sNil, sBrk, sCnt, bndS, bnd, rt, opt, fVar, fVal, fBin, fUn, rd1, rd2, Rv.rd, Sl.rd, fD, fzM, Rv.fz, fCons, fNil, dCons, dNil, aCons, aNil, aBoxN, aBox, fCall, resolve, boxes, bxpos, wb, fNm, rdAll, fTup, fLst, hAdd, hSub, hInt2, hMulL, hLt, hLe, hGt, hGe, hNeg, hAbs, hLen, hInt1, hMax2, hMin2, hIx, fSl, oNone, oSome, hSl, fB, toB, fAnd, fOr, fNot, fAndV, fOrV, fNotV, fChain, kName, kTup, kCons, kNil, slOk, sStore, fMt, mtGo, hApp, hFdiv, hMod, hDivmod, outs, List.length_cons, List.length_nil, List.getElem?_cons_zero, List.getElem?_cons_succ, List.getElem?_nil, List.set_cons_zero, List.set_cons_succ, List.replicate_succ, List.replicate_zero, List.cons_append, List.nil_append, Option.bind_some, Option.map_some, cond_true, cond_false, ite_true, ite_false, Nat.reduceAdd, Nat.reduceSub, Nat.reduceEqDiff, Nat.reduceLeDiff, if_true, if_false, reduceIte, atI_n0, atI_n1, atI_n2, atI_n3, ixN_10, ixN_20, ixN_21, hEq_int, hNe_int, Bool.not_true, decide_true, decide_false, hTuple, sTryK, sRaise, Bool.false_eq_true, Bool.not_false, sz0, sz1, sz2, sz3, sz4, sz5, sz6, sz7, sz8, e2, dl]
  · have eN : isNumB r d = false := by
      cases d with
      | tuple ds => rw [isi_tup] at e; cases e
      | _ => rfl
    rw [eN]
    unfold d_p_is_number
    generalize fLc [2] _ _ _ _ = E
    simp only [mkFn, sCons, sSet, sPar, sUnp, sIf, sRet, sRetN, sDrop, sNil, sBrk, sCnt, bndS, bnd, rt, opt, fVar, fVal, fBin, fUn, rd1, rd2, Rv.rd, Sl.rd, fD, fzM, Rv.fz, fCons, fNil, dCons, dNil, aCons, aNil, aBoxN, aBox, fCall, resolve, boxes, bxpos, wb, fNm, rdAll, fTup, fLst, hAdd, hSub, hInt2, hMulL, hLt, hLe, hGt, hGe, hNeg, hAbs, hLen, hInt1, hMax2, hMin2, hIx, fSl, oNone, oSome, hSl, fB, toB, fAnd, fOr, fNot, fAndV, fOrV, fNotV, fChain, kName, kTup, kCons, kNil, slOk, sStore, fMt, mtGo, hApp, hFdiv, hMod, hDivmod, outs, List.length_cons, List.length_nil, List.getElem?_cons_zero, List.getElem?_cons_succ, List.getElem?_nil, List.set_cons_zero, List.set_cons_succ, List.replicate_succ, List.replicate_zero, List.cons_append, List.nil_append, Option.bind_some, Option.map_some, cond_true, cond_false, ite_true, ite_false, Nat.reduceAdd, Nat.reduceSub, Nat.reduceEqDiff, Nat.reduceLeDiff, if_true, if_false, reduceIte, atI_n0, atI_n1, atI_n2, atI_n3, ixN_10, ixN_20, ixN_21, hEq_int, hNe_int, Bool.not_true, decide_true, decide_false, hTuple, sTryK, sRaise, Bool.false_eq_true, Bool.not_false, sz0, sz1, sz2, sz3, sz4, sz5, sz6, sz7, sz8, e]
/-! ### the program's look at changes -/
theorem root_lc (r : Int) (hr : r = 2 ∨ r = 3 ∨ r = 5 ∨ r = 6 ∨ r = 7 ∨ r = 11 ∨ r = 13) : fLc [1] (fiR2 (dCons (fVal (.int 2)) (dCons (fVal (.int 10)) dNil))) (kName 1) tYesF (fBin hEq (fBin hMod (fVar 0) (fBin hMulL (fVar 1) (fVar 1))) (fVal (.int 0))) [.dat (.int r), .no] = some (.inr (.fresh (.list [.bool false, .bool false, .bool false, .bool false, .bool false, .bool false, .bool false, .bool false])), [.dat (.int r), .no]) := by
  rcases hr with rfl | rfl | rfl | rfl | rfl | rfl | rfl <;> rfl
theorem isroot_ok (r : Int) (hr : r = 0 ∨ r = 2 ∨ r = 3 ∨ r = 5 ∨ r = 6 ∨ r = 7 ∨ r = 11 ∨ r = 13) : d_p_is_root [.dat (.int r)] = some (.inr (false, .bool true), [.no]) := by
  have ew := iswhole_any' (d := .int r) rfl
  rw [show isI (.int r) = true from rfl] at ew
  rcases hr with rfl | hr
  · have d1 : decide ((0 : Int) < 0) = false := rfl
    have d2 : decide ((0 : Int) = 1) = false := rfl
    have d3 : decide ((99 : Int) < 0) = false := rfl
    have d4 : decide ((0 : Int) = 0) = true := rfl
    unfold d_p_is_root
    generalize fLc [1] _ _ _ _ = E
    simp only [mkFn, sCons, sSet, sPar, sUnp, sIf, sRet, sRetN, sDrop, sNil, sBrk, sCnt, bndS, bnd, rt, opt, fVar, fVal, fBin, fUn, rd1, rd2, Rv.rd, Sl.rd, fD, fzM, Rv.fz, fCons, fNil, dCons, dNil, aCons, aNil, aBoxN, aBox, fCall, resolve, boxes, bxpos, wb, fNm, rdAll, fTup, fLst, hAdd, hSub, hInt2, hMulL, hLt, hLe, hGt, hGe, hNeg, hAbs, hLen, hInt1, hMax2, hMin2, hIx, fSl, oNone, oSome, hSl, fB, toB, fAnd, fOr, fNot, fAndV, fOrV, fNotV, fChain, kName, kTup, kCons, kNil, slOk, sStore, fMt, mtGo, hApp, hFdiv, hMod, hDivmod, outs, List.length_cons, List.length_nil, List.getElem?_cons_zero, List.getElem?_cons_succ, List.getElem?_nil, List.set_cons_zero, List.set_cons_succ, List.replicate_succ, List.replicate_zero, List.cons_append, List.nil_append, Option.bind_some, Option.map_some, cond_true, cond_false, ite_true, ite_false, Nat.reduceAdd, Nat.reduceSub, Nat.reduceEqDiff, Nat.reduceLeDiff, if_true, if_false, reduceIte, atI_n0, atI_n1, atI_n2, atI_n3, ixN_10, ixN_20, ixN_21, hEq_int, hNe_int, Bool.not_true, decide_true, decide_false, hTuple, sTryK, sRaise, Bool.false_eq_true, Bool.not_false, sz0, sz1, sz2, sz3, sz4, sz5, sz6, sz7, sz8, ew, d1, d2, d3, d4]
  · have el := root_lc r hr
    have hr2 : 2 ≤ r ∧ r ≤ 13 := by omega
    have d1 : decide (r < 0) = false := decide_eq_false (by omega)
    have d2 : decide (r = 1) = false := decide_eq_false (by omega)
    have d3 : decide ((99 : Int) < r) = false := decide_eq_false (by omega)
    have d4 : decide (r = 0) = false := decide_eq_false (by omega)
    have ha : hAny [.list [.bool false, .bool false, .bool false, .bool false, .bool false, .bool false, .bool false, .bool false]] = some (.val (.bool false)) := rfl
    generalize [PyData.bool false, .bool false, .bool false, .bool false, .bool false, .bool false, .bool false, .bool false] = LL at *
    unfold d_p_is_root
    generalize fLc [1] _ _ _ _ = E at el ⊢
    simp only [mkFn, sCons, sSet, sPar, sUnp, sIf, sRet, sRetN, sDrop, sNil, sBrk, sCnt, bndS, bnd, rt, opt, fVar, fVal, fBin, fUn, rd1, rd2, Rv.rd, Sl.rd, fD, fzM, Rv.fz, fCons, fNil, dCons, dNil, aCons, aNil, aBoxN, aBox, fCall, resolve, boxes, bxpos, wb, fNm, rdAll, fTup, fLst, hAdd, hSub, hInt2, hMulL, hLt, hLe, hGt, hGe, hNeg, hAbs, hLen, hInt1, hMax2, hMin2, hIx, fSl, oNone, oSome, hSl, fB, toB, fAnd, fOr, fNot, fAndV, fOrV, fNotV, fChain, kName, kTup, kCons, kNil, slOk, sStore, fMt, mtGo, hApp, hFdiv, hMod, hDivmod, outs, List.length_cons, List.length_nil, List.getElem?_cons_zero, List.getElem?_cons_succ, List.getElem?_nil, List.set_cons_zero, List.set_cons_succ, List.replicate_succ, List.replicate_zero, List.cons_append, List.nil_append, Option.bind_some, Option.map_some, cond_true, cond_false, ite_true, ite_false, Nat.reduceAdd, Nat.reduceSub, Nat.reduceEqDiff, Nat.reduceLeDiff, if_true, if_false, reduceIte, atI_n0, atI_n1, atI_n2, atI_n3, ixN_10, ixN_20, ixN_21, hEq_int, hNe_int, Bool.not_true, decide_true, decide_false, hTuple, sTryK, sRaise, Bool.false_eq_true, Bool.not_false, sz0, sz1, sz2, sz3, sz4, sz5, sz6, sz7, sz8, ew, d1, d2, d3, d4, el, ha]
theorem isroot_no (d : D) (hd : notScr d = true) (h : (∀ i, d = .int i → i < 0 ∨ i = 1 ∨ 99 < i)) : d_p_is_root [.dat d] = some (.inr (false, .bool false), [.no]) := by
  have ew := iswhole_any' hd
  unfold d_p_is_root
  generalize fLc [1] _ _ _ _ = E
  cases d with
  | int i =>
    rw [show isI (.int i) = true from rfl] at ew
    rcases h i rfl with h | h | h
    · have d1 : decide (i < 0) = true := decide_eq_true h
      simp only [mkFn, sCons, sSet, sPar, sUnp, sIf, sRet, sRetN, sDrop, sNil, sBrk, sCnt, bndS, bnd, rt, opt, fVar, fVal, fBin, fUn, rd1, rd2, Rv.rd, Sl.rd, fD, fzM, Rv.fz, fCons, fNil, dCons, dNil, aCons, aNil, aBoxN, aBox, fCall, resolve, boxes, bxpos, wb, fNm, rdAll, fTup, fLst, hAdd, hSub, hInt2, hMulL, hLt, hLe, hGt, hGe, hNeg, hAbs, hLen, hInt1, hMax2, hMin2, hIx, fSl, oNone, oSome, hSl, fB, toB, fAnd, fOr, fNot, fAndV, fOrV, fNotV, fChain, kName, kTup, kCons, kNil, slOk, sStore, fMt, mtGo, hApp, hFdiv, hMod, hDivmod, outs, List.length_cons, List.length_nil, List.getElem?_cons_zero, List.getElem?_cons_succ, List.getElem?_nil, List.set_cons_zero, List.set_cons_succ, List.replicate_succ, List.replicate_zero, List.cons_append, List.nil_append, Option.bind_some, Option.map_some, cond_true, cond_false, ite_true, ite_false, Nat.reduceAdd, Nat.reduceSub, Nat.reduceEqDiff, Nat.reduceLeDiff, if_true, if_false, reduceIte, atI_n0, atI_n1, atI_n2, atI_n3, ixN_10, ixN_20, ixN_21, hEq_int, hNe_int, Bool.not_true, decide_true, decide_false, hTuple, sTryK, sRaise, Bool.false_eq_true, Bool.not_false, sz0, sz1, sz2, sz3, sz4, sz5, sz6, sz7, sz8, ew, d1]
    · subst h
      have d1 : decide ((1 : Int) < 0) = false := rfl
      have d2 : decide ((1 : Int) = 1) = true := rfl
      simp only [mkFn, sCons, sSet, sPar, sUnp, sIf, sRet, sRetN, sDrop, sNil, sBrk, sCnt, bndS, bnd, rt, opt, fVar, fVal, fBin, fUn, rd1, rd2, Rv.rd, Sl.rd, fD, fzM, Rv.fz, fCons, fNil, dCons, dNil, aCons, aNil, aBoxN, aBox, fCall, resolve, boxes, bxpos, wb, fNm, rdAll, fTup, fLst, hAdd, hSub, hInt2, hMulL, hLt, hLe, hGt, hGe, hNeg, hAbs, hLen, hInt1, hMax2, hMin2, hIx, fSl, oNone, oSome, hSl, fB, toB, fAnd, fOr, fNot, fAndV, fOrV, fNotV, fChain, kName, kTup, kCons, kNil, slOk, sStore, fMt, mtGo, hApp, hFdiv, hMod, hDivmod, outs, List.length_cons, List.length_nil, List.getElem?_cons_zero, List.getElem?_cons_succ, List.getElem?_nil, List.set_cons_zero, List.set_cons_succ, List.replicate_succ, List.replicate_zero, List.cons_append, List.nil_append, Option.bind_some, Option.map_some, cond_true, cond_false, ite_true, ite_false, Nat.reduceAdd, Nat.reduceSub, Nat.reduceEqDiff, Nat.reduceLeDiff, if_true, if_false, reduceIte, atI_n0, atI_n1, atI_n2, atI_n3, ixN_10, ixN_20, ixN_21, hEq_int, hNe_int, Bool.not_true, decide_true, decide_false, hTuple, sTryK, sRaise, Bool.false_eq_true, Bool.not_false, sz0, sz1, sz2, sz3, sz4, sz5, sz6, sz7, sz8, ew, d1, d2]
    · have d1 : decide (i < 0) = false := decide_eq_false (by omega)
      have d2 : decide (i = 1) = false := decide_eq_false (by omega)
      have d3 : decide ((99 : Int) < i) = true := decide_eq_true h
      simp only [mkFn, sCons, sSet, sPar, sUnp, sIf, sRet, sRetN, sDrop, sNil, sBrk, sCnt, bndS, bnd, rt, opt, fVar, fVal, fBin, fUn, rd1, rd2, Rv.rd, Sl.rd, fD, fzM, Rv.fz, fCons, fNil, dCons, dNil, aCons, aNil, aBoxN, aBox, fCall, resolve, boxes, bxpos, wb, fNm, rdAll, fTup, fLst, hAdd, hSub, hInt2, hMulL, hLt, hLe, hGt, hGe, hNeg, hAbs, hLen, hInt1, hMax2, hMin2, hIx, fSl, oNone, oSome, hSl, fB, toB, fAnd, fOr, fNot, fAndV, fOrV, fNotV, fChain, kName, kTup, kCons, kNil, slOk, sStore, fMt, mtGo, hApp, hFdiv, hMod, hDivmod, outs, List.length_cons, List.length_nil, List.getElem?_cons_zero, List.getElem?_cons_succ, List.getElem?_nil, List.set_cons_zero, List.set_cons_succ, List.replicate_succ, List.replicate_zero, List.cons_append, List.nil_append, Option.bind_some, Option.map_some, cond_true, cond_false, ite_true, ite_false, Nat.reduceAdd, Nat.reduceSub, Nat.reduceEqDiff, Nat.reduceLeDiff, if_true, if_false, reduceIte, atI_n0, atI_n1, atI_n2, atI_n3, ixN_10, ixN_20, ixN_21, hEq_int, hNe_int, Bool.not_true, decide_true, decide_false, hTuple, sTryK, sRaise, Bool.false_eq_true, Bool.not_false, sz0, sz1, sz2, sz3, sz4, sz5, sz6, sz7, sz8, ew, d1, d2, d3]
  | _ =>
    simp only [isI] at ew
    simp only [mkFn, sCons, sSet, sPar, sUnp, sIf, sRet, sRetN, sDrop, sNil, sBrk, sCnt, bndS, bnd, rt, opt, fVar, fVal, fBin, fUn, rd1, rd2, Rv.rd, Sl.rd, fD, fzM, Rv.fz, fCons, fNil, dCons, dNil, aCons, aNil, aBoxN, aBox, fCall, resolve, boxes, bxpos, wb, fNm, rdAll, fTup, fLst, hAdd, hSub, hInt2, hMulL, hLt, hLe, hGt, hGe, hNeg, hAbs, hLen, hInt1, hMax2, hMin2, hIx, fSl, oNone, oSome, hSl, fB, toB, fAnd, fOr, fNot, fAndV, fOrV, fNotV, fChain, kName, kTup, kCons, kNil, slOk, sStore, fMt, mtGo, hApp, hFdiv, hMod, hDivmod, outs, List.length_cons, List.length_nil, List.getElem?_cons_zero, List.getElem?_cons_succ, List.getElem?_nil, List.set_cons_zero, List.set_cons_succ, List.replicate_succ, List.replicate_zero, List.cons_append, List.nil_append, Option.bind_some, Option.map_some, cond_true, cond_false, ite_true, ite_false, Nat.reduceAdd, Nat.reduceSub, Nat.reduceEqDiff, Nat.reduceLeDiff, if_true, if_false, reduceIte, atI_n0, atI_n1, atI_n2, atI_n3, ixN_10, ixN_20, ixN_21, hEq_int, hNe_int, Bool.not_true, decide_true, decide_false, hTuple, sTryK, sRaise, Bool.false_eq_true, Bool.not_false, sz0, sz1, sz2, sz3, sz4, sz5, sz6, sz7, sz8, ew]
/-- no change: by its form -/
theorem isch_nt {d : D} (hs : notScr d = true) (h : ∀ ds, d ≠ .tuple ds) : d_p_is_change [.dat d] = some (.inr (false, .bool false), [.no]) := by
  rcases isi_ntup hs with ⟨ds, rfl⟩ | e
  · exact absurd rfl (h ds)
  · unfold d_p_is_change
    generalize fLc [4] _ _ _ _ = E
    simp only [mkFn, sCons, sSet, sPar, sUnp, sIf, sRet, sRetN, sDrop, sNil, sBrk, sCnt, bndS, bnd, rt, opt, fVar, fVal, fBin, fUn, rd1, rd2, Rv.rd, Sl.rd, fD, fzM, Rv.fz, fCons, fNil, dCons, dNil, aCons, aNil, aBoxN, aBox, fCall, resolve, boxes, bxpos, wb, fNm, rdAll, fTup, fLst, hAdd, hSub, hInt2, hMulL, hLt, hLe, hGt, hGe, hNeg, hAbs, hLen, hInt1, hMax2, hMin2, hIx, fSl, oNone, oSome, hSl, fB, toB, fAnd, fOr, fNot, fAndV, fOrV, fNotV, fChain, kName, kTup, kCons, kNil, slOk, sStore, fMt, mtGo, hApp, hFdiv, hMod, hDivmod, outs, List.length_cons, List.length_nil, List.getElem?_cons_zero, List.getElem?_cons_succ, List.getElem?_nil, List.set_cons_zero, List.set_cons_succ, List.replicate_succ, List.replicate_zero, List.cons_append, List.nil_append, Option.bind_some, Option.map_some, cond_true, cond_false, ite_true, ite_false, Nat.reduceAdd, Nat.reduceSub, Nat.reduceEqDiff, Nat.reduceLeDiff, if_true, if_false, reduceIte, atI_n0, atI_n1, atI_n2, atI_n3, ixN_10, ixN_20, ixN_21, hEq_int, hNe_int, Bool.not_true, decide_true, decide_false, hTuple, sTryK, sRaise, Bool.false_eq_true, Bool.not_false, sz0, sz1, sz2, sz3, sz4, sz5, sz6, sz7, sz8, e]
theorem isch_len {ds : List D} (h : ds.length ≠ 3) : d_p_is_change [.dat (.tuple ds)] = some (.inr (false, .bool false), [.no]) := by
  have e := isi_tup ds
  have dl : (!decide ((((ds.length : Nat) : Int)) = 3)) = true := by rw [decide_eq_false (by omega)]; rfl
  unfold d_p_is_change
  generalize fLc [4] (fiS (fD (fVar 2))) _ _ _ = E
  simp only [mkFn, sCons, sSet, sPar, sUnp, sIf, sRet, sRetN, sDrop, sNil, sBrk, sCnt, bndS, bnd, rt, opt, fVar, fVal, fBin, fUn, rd1, rd2, Rv.rd, Sl.rd, fD, fzM, Rv.fz, fCons, fNil, dCons, dNil, aCons, aNil, aBoxN, aBox, fCall, resolve, boxes, bxpos, wb, fNm, rdAll, fTup, fLst, hAdd, hSub, hInt2, hMulL, hLt, hLe, hGt, hGe, hNeg, hAbs, hLen, hInt1, hMax2, hMin2, hIx, fSl, oNone, oSome, hSl, fB, toB, fAnd, fOr, fNot, fAndV, fOrV, fNotV, fChain, kName, kTup, kCons, kNil, slOk, sStore, fMt, mtGo, hApp, hFdiv, hMod, hDivmod, outs, List.length_cons, List.length_nil, List.getElem?_cons_zero, List.getElem?_cons_succ, List.getElem?_nil, List.set_cons_zero, List.set_cons_succ, List.replicate_succ, List.replicate_zero, List.cons_append, List.nil_append, Option.bind_some, Option.map_some, cond_true, cond_false, ite_true, ite_false, Nat.reduceAdd, Nat.reduceSub, Nat.reduceEqDiff, Nat.reduceLeDiff, if_true, if_false, reduceIte, atI_n0, atI_n1, atI_n2, atI_n3, ixN_10, ixN_20, ixN_21, hEq_int, hNe_int, Bool.not_true, decide_true, decide_false, hTuple, sTryK, sRaise, Bool.false_eq_true, Bool.not_false, sz0, sz1, sz2, sz3, sz4, sz5, sz6, sz7, sz8, e, dl]
theorem isch_root {x y z : D} (h : d_p_is_root [.dat x] = some (.inr (false, .bool false), [.no])) : d_p_is_change [.dat (.tuple [x, y, z])] = some (.inr (false, .bool false), [.no]) := by
  have e := isi_tup [x, y, z]
  have dl : (!decide (((([x, y, z].length : Nat) : Int)) = 3)) = false := rfl
  have i0 : atI [x, y, z] 0 = some x := rfl
  unfold d_p_is_change
  generalize fLc [4] (fiS (fD (fVar 2))) _ _ _ = E
  generalize [x, y, z] = DS at *
  simp only [mkFn, sCons, sSet, sPar, sUnp, sIf, sRet, sRetN, sDrop, sNil, sBrk, sCnt, bndS, bnd, rt, opt, fVar, fVal, fBin, fUn, rd1, rd2, Rv.rd, Sl.rd, fD, fzM, Rv.fz, fCons, fNil, dCons, dNil, aCons, aNil, aBoxN, aBox, fCall, resolve, boxes, bxpos, wb, fNm, rdAll, fTup, fLst, hAdd, hSub, hInt2, hMulL, hLt, hLe, hGt, hGe, hNeg, hAbs, hLen, hInt1, hMax2, hMin2, hIx, fSl, oNone, oSome, hSl, fB, toB, fAnd, fOr, fNot, fAndV, fOrV, fNotV, fChain, kName, kTup, kCons, kNil, slOk, sStore, fMt, mtGo, hApp, hFdiv, hMod, hDivmod, outs, List.length_cons, List.length_nil, List.getElem?_cons_zero, List.getElem?_cons_succ, List.getElem?_nil, List.set_cons_zero, List.set_cons_succ, List.replicate_succ, List.replicate_zero, List.cons_append, List.nil_append, Option.bind_some, Option.map_some, cond_true, cond_false, ite_true, ite_false, Nat.reduceAdd, Nat.reduceSub, Nat.reduceEqDiff, Nat.reduceLeDiff, if_true, if_false, reduceIte, atI_n0, atI_n1, atI_n2, atI_n3, ixN_10, ixN_20, ixN_21, hEq_int, hNe_int, Bool.not_true, decide_true, decide_false, hTuple, sTryK, sRaise, Bool.false_eq_true, Bool.not_false, sz0, sz1, sz2, sz3, sz4, sz5, sz6, sz7, sz8, e, dl, i0, h]
theorem isch_nl {x y z : D} (h : d_p_is_root [.dat x] = some (.inr (false, .bool true), [.no])) (hs : notScr y = true) (hy : ∀ ds, y ≠ .tuple ds) : d_p_is_change [.dat (.tuple [x, y, z])] = some (.inr (false, .bool false), [.no]) := by
  have e := isi_tup [x, y, z]
  have dl : (!decide (((([x, y, z].length : Nat) : Int)) = 3)) = false := rfl
  have i0 : atI [x, y, z] 0 = some x := rfl
  have ey : hIsi "tuple" y = some (.val (.bool false)) := by
    rcases isi_ntup hs with ⟨ds, rfl⟩ | e
    · exact absurd rfl (hy ds)
    · exact e
  unfold d_p_is_change
  generalize fLc [4] (fiS (fD (fVar 2))) _ _ _ = E
  generalize fLc [4] (fiS (fD (fVar 3))) _ _ _ = E2
  refine mkFn_ret (fs := [.dat (.tuple [x, y, z]), .dat x, .dat y, .dat z, .no]) rfl ?_
  show sCons _ _ [.dat (.tuple [x, y, z]), .no, .no, .no, .no] = _
  rw [sCons_nx (fs1 := [.dat (.tuple [x, y, z]), .no, .no, .no, .no]) (by
    generalize [x, y, z] = DS at *
    simp only [mkFn, sCons, sSet, sPar, sUnp, sIf, sRet, sRetN, sDrop, sNil, sBrk, sCnt, bndS, bnd, rt, opt, fVar, fVal, fBin, fUn, rd1, rd2, Rv.rd, Sl.rd, fD, fzM, Rv.fz, fCons, fNil, dCons, dNil, aCons, aNil, aBoxN, aBox, fCall, resolve, boxes, bxpos, wb, fNm, rdAll, fTup, fLst, hAdd, hSub, hInt2, hMulL, hLt, hLe, hGt, hGe, hNeg, hAbs, hLen, hInt1, hMax2, hMin2, hIx, fSl, oNone, oSome, hSl, fB, toB, fAnd, fOr, fNot, fAndV, fOrV, fNotV, fChain, kName, kTup, kCons, kNil, slOk, sStore, fMt, mtGo, hApp, hFdiv, hMod, hDivmod, outs, List.length_cons, List.length_nil, List.getElem?_cons_zero, List.getElem?_cons_succ, List.getElem?_nil, List.set_cons_zero, List.set_cons_succ, List.replicate_succ, List.replicate_zero, List.cons_append, List.nil_append, Option.bind_some, Option.map_some, cond_true, cond_false, ite_true, ite_false, Nat.reduceAdd, Nat.reduceSub, Nat.reduceEqDiff, Nat.reduceLeDiff, if_true, if_false, reduceIte, atI_n0, atI_n1, atI_n2, atI_n3, ixN_10, ixN_20, ixN_21, hEq_int, hNe_int, Bool.not_true, decide_true, decide_false, hTuple, sTryK, sRaise, Bool.false_eq_true, Bool.not_false, sz0, sz1, sz2, sz3, sz4, sz5, sz6, sz7, sz8, e, dl, i0, h])]
  rw [sCons_nx (fs1 := [.dat (.tuple [x, y, z]), .dat x, .dat y, .dat z, .no]) (by simp only [mkFn, sCons, sSet, sPar, sUnp, sIf, sRet, sRetN, sDrop, sNil, sBrk, sCnt, bndS, bnd, rt, opt, fVar, fVal, fBin, fUn, rd1, rd2, Rv.rd, Sl.rd, fD, fzM, Rv.fz, fCons, fNil, dCons, dNil, aCons, aNil, aBoxN, aBox, fCall, resolve, boxes, bxpos, wb, fNm, rdAll, fTup, fLst, hAdd, hSub, hInt2, hMulL, hLt, hLe, hGt, hGe, hNeg, hAbs, hLen, hInt1, hMax2, hMin2, hIx, fSl, oNone, oSome, hSl, fB, toB, fAnd, fOr, fNot, fAndV, fOrV, fNotV, fChain, kName, kTup, kCons, kNil, slOk, sStore, fMt, mtGo, hApp, hFdiv, hMod, hDivmod, outs, List.length_cons, List.length_nil, List.getElem?_cons_zero, List.getElem?_cons_succ, List.getElem?_nil, List.set_cons_zero, List.set_cons_succ, List.replicate_succ, List.replicate_zero, List.cons_append, List.nil_append, Option.bind_some, Option.map_some, cond_true, cond_false, ite_true, ite_false, Nat.reduceAdd, Nat.reduceSub, Nat.reduceEqDiff, Nat.reduceLeDiff, if_true, if_false, reduceIte, atI_n0, atI_n1, atI_n2, atI_n3, ixN_10, ixN_20, ixN_21, hEq_int, hNe_int, Bool.not_true, decide_true, decide_false, hTuple, sTryK, sRaise, Bool.false_eq_true, Bool.not_false, sz0, sz1, sz2, sz3, sz4, sz5, sz6, sz7, sz8])]
  exact sCons_ret (by simp only [mkFn, sCons, sSet, sPar, sUnp, sIf, sRet, sRetN, sDrop, sNil, sBrk, sCnt, bndS, bnd, rt, opt, fVar, fVal, fBin, fUn, rd1, rd2, Rv.rd, Sl.rd, fD, fzM, Rv.fz, fCons, fNil, dCons, dNil, aCons, aNil, aBoxN, aBox, fCall, resolve, boxes, bxpos, wb, fNm, rdAll, fTup, fLst, hAdd, hSub, hInt2, hMulL, hLt, hLe, hGt, hGe, hNeg, hAbs, hLen, hInt1, hMax2, hMin2, hIx, fSl, oNone, oSome, hSl, fB, toB, fAnd, fOr, fNot, fAndV, fOrV, fNotV, fChain, kName, kTup, kCons, kNil, slOk, sStore, fMt, mtGo, hApp, hFdiv, hMod, hDivmod, outs, List.length_cons, List.length_nil, List.getElem?_cons_zero, List.getElem?_cons_succ, List.getElem?_nil, List.set_cons_zero, List.set_cons_succ, List.replicate_succ, List.replicate_zero, List.cons_append, List.nil_append, Option.bind_some, Option.map_some, cond_true, cond_false, ite_true, ite_false, Nat.reduceAdd, Nat.reduceSub, Nat.reduceEqDiff, Nat.reduceLeDiff, if_true, if_false, reduceIte, atI_n0, atI_n1, atI_n2, atI_n3, ixN_10, ixN_20, ixN_21, hEq_int, hNe_int, Bool.not_true, decide_true, decide_false, hTuple, sTryK, sRaise, Bool.false_eq_true, Bool.not_false, sz0, sz1, sz2, sz3, sz4, sz5, sz6, sz7, sz8, ey])
/-- a tuple of a root, longs, an order -/
theorem isch_3 {r : Int} {xs os : List D} {F : D → Bool} (hr : d_p_is_root [.dat (.int r)] = some (.inr (false, .bool true), [.no])) (h1 : 1 ≤ xs.length) (h2 : xs.length ≤ 12)
    (hF : ∀ x ∈ xs, ∃ b : Bool, d_p_is_number [.dat (.int r), .dat x] = some (.inr (false, .bool b), [.no, .no]) ∧ (b = true → d_p_less [.dat (.int r), .dat g_NOUGHT, .dat x] = some (.inr (false, .bool (F x)), [.no, .no, .no])) ∧ (b = false → F x = false)) {ns : List Int} (ho : os = ns.map PyData.int) (hol : ns.length ≤ 900) :
    d_p_is_change [.dat (.tuple [.int r, .tuple xs, .tuple os])] = some (.inr (false, .bool (xs.all F && decide (srtI ns = upto xs.length))), [.no]) := by
  subst ho
  have e := isi_tup [.int r, .tuple xs, .tuple (ns.map PyData.int)]
  have ex := isi_tup xs
  have eo := isi_tup (ns.map PyData.int)
  have dl : (!decide (((([PyData.int r, .tuple xs, .tuple (ns.map PyData.int)].length : Nat) : Int)) = 3)) = false := rfl
  have i0 : atI [PyData.int r, .tuple xs, .tuple (ns.map PyData.int)] 0 = some (.int r) := rfl
  have d1 : decide ((1 : Int) ≤ ((xs.length : Nat) : Int)) = true := decide_eq_true (by omega)
  have d2 : decide (((xs.length : Nat) : Int) ≤ 12) = true := decide_eq_true (by omega)
  have el := lcL_all (vs := [4]) (g := kName 4) (fe := fAndV (fCall d_p_is_number (aCons (fVar 1) (aCons (fVar 4) aNil))) (fCall d_p_less (aCons (fVar 1) (aCons (fVal g_NOUGHT) (aCons (fVar 4) aNil))))) (fun d : D => d) (fun d => .bool (F d)) [.dat (.tuple [.int r, .tuple xs, .tuple (ns.map PyData.int)]), .dat (.int r), .dat (.tuple xs), .dat (.tuple (ns.map PyData.int)), .no] xs (by omega) (by
    intro x hx
    refine ⟨[.dat (.tuple [.int r, .tuple xs, .tuple (ns.map PyData.int)]), .dat (.int r), .dat (.tuple xs), .dat (.tuple (ns.map PyData.int)), .dat x], [.dat (.tuple [.int r, .tuple xs, .tuple (ns.map PyData.int)]), .dat (.int r), .dat (.tuple xs), .dat (.tuple (ns.map PyData.int)), .dat x], rfl, ?_, rfl⟩
    obtain ⟨b, q1, q2, q3⟩ := hF x hx
    generalize PyData.tuple [.int r, .tuple xs, .tuple (ns.map PyData.int)] = A0
    generalize ns.map PyData.int = OO
    cases b with
    | true =>
      have q2 := q2 rfl
      generalize g_NOUGHT = NN at *
      generalize F x = FX at *
      simp only [mkFn, sCons, sSet, sPar, sUnp, sIf, sRet, sRetN, sDrop, sNil, sBrk, sCnt, bndS, bnd, rt, opt, fVar, fVal, fBin, fUn, rd1, rd2, Rv.rd, Sl.rd, fD, fzM, Rv.fz, fCons, fNil, dCons, dNil, aCons, aNil, aBoxN, aBox, fCall, resolve, boxes, bxpos, wb, fNm, rdAll, fTup, fLst, hAdd, hSub, hInt2, hMulL, hLt, hLe, hGt, hGe, hNeg, hAbs, hLen, hInt1, hMax2, hMin2, hIx, fSl, oNone, oSome, hSl, fB, toB, fAnd, fOr, fNot, fAndV, fOrV, fNotV, fChain, kName, kTup, kCons, kNil, slOk, sStore, fMt, mtGo, hApp, hFdiv, hMod, hDivmod, outs, List.length_cons, List.length_nil, List.getElem?_cons_zero, List.getElem?_cons_succ, List.getElem?_nil, List.set_cons_zero, List.set_cons_succ, List.replicate_succ, List.replicate_zero, List.cons_append, List.nil_append, Option.bind_some, Option.map_some, cond_true, cond_false, ite_true, ite_false, Nat.reduceAdd, Nat.reduceSub, Nat.reduceEqDiff, Nat.reduceLeDiff, if_true, if_false, reduceIte, atI_n0, atI_n1, atI_n2, atI_n3, ixN_10, ixN_20, ixN_21, hEq_int, hNe_int, Bool.not_true, decide_true, decide_false, hTuple, sTryK, sRaise, Bool.false_eq_true, Bool.not_false, sz0, sz1, sz2, sz3, sz4, sz5, sz6, sz7, sz8, q1, q2]
    | false =>
      rw [q3 rfl]
      simp only [mkFn, sCons, sSet, sPar, sUnp, sIf, sRet, sRetN, sDrop, sNil, sBrk, sCnt, bndS, bnd, rt, opt, fVar, fVal, fBin, fUn, rd1, rd2, Rv.rd, Sl.rd, fD, fzM, Rv.fz, fCons, fNil, dCons, dNil, aCons, aNil, aBoxN, aBox, fCall, resolve, boxes, bxpos, wb, fNm, rdAll, fTup, fLst, hAdd, hSub, hInt2, hMulL, hLt, hLe, hGt, hGe, hNeg, hAbs, hLen, hInt1, hMax2, hMin2, hIx, fSl, oNone, oSome, hSl, fB, toB, fAnd, fOr, fNot, fAndV, fOrV, fNotV, fChain, kName, kTup, kCons, kNil, slOk, sStore, fMt, mtGo, hApp, hFdiv, hMod, hDivmod, outs, List.length_cons, List.length_nil, List.getElem?_cons_zero, List.getElem?_cons_succ, List.getElem?_nil, List.set_cons_zero, List.set_cons_succ, List.replicate_succ, List.replicate_zero, List.cons_append, List.nil_append, Option.bind_some, Option.map_some, cond_true, cond_false, ite_true, ite_false, Nat.reduceAdd, Nat.reduceSub, Nat.reduceEqDiff, Nat.reduceLeDiff, if_true, if_false, reduceIte, atI_n0, atI_n1, atI_n2, atI_n3, ixN_10, ixN_20, ixN_21, hEq_int, hNe_int, Bool.not_true, decide_true, decide_false, hTuple, sTryK, sRaise, Bool.false_eq_true, Bool.not_false, sz0, sz1, sz2, sz3, sz4, sz5, sz6, sz7, sz8, q1])
  rw [List.map_id'] at el
  have ec := fLc_of (f := fiS (fD (fVar 2))) (ds := xs) (fs := [.dat (.tuple [.int r, .tuple xs, .tuple (ns.map PyData.int)]), .dat (.int r), .dat (.tuple xs), .dat (.tuple (ns.map PyData.int)), .no]) (fs1 := [.dat (.tuple [.int r, .tuple xs, .tuple (ns.map PyData.int)]), .dat (.int r), .dat (.tuple xs), .dat (.tuple (ns.map PyData.int)), .no]) (by
    generalize PyData.tuple [.int r, .tuple xs, .tuple (ns.map PyData.int)] = A0
    simp only [fiS, asS, mkFn, sCons, sSet, sPar, sUnp, sIf, sRet, sRetN, sDrop, sNil, sBrk, sCnt, bndS, bnd, rt, opt, fVar, fVal, fBin, fUn, rd1, rd2, Rv.rd, Sl.rd, fD, fzM, Rv.fz, fCons, fNil, dCons, dNil, aCons, aNil, aBoxN, aBox, fCall, resolve, boxes, bxpos, wb, fNm, rdAll, fTup, fLst, hAdd, hSub, hInt2, hMulL, hLt, hLe, hGt, hGe, hNeg, hAbs, hLen, hInt1, hMax2, hMin2, hIx, fSl, oNone, oSome, hSl, fB, toB, fAnd, fOr, fNot, fAndV, fOrV, fNotV, fChain, kName, kTup, kCons, kNil, slOk, sStore, fMt, mtGo, hApp, hFdiv, hMod, hDivmod, outs, List.length_cons, List.length_nil, List.getElem?_cons_zero, List.getElem?_cons_succ, List.getElem?_nil, List.set_cons_zero, List.set_cons_succ, List.replicate_succ, List.replicate_zero, List.cons_append, List.nil_append, Option.bind_some, Option.map_some, cond_true, cond_false, ite_true, ite_false, Nat.reduceAdd, Nat.reduceSub, Nat.reduceEqDiff, Nat.reduceLeDiff, if_true, if_false, reduceIte, atI_n0, atI_n1, atI_n2, atI_n3, ixN_10, ixN_20, ixN_21, hEq_int, hNe_int, Bool.not_true, decide_true, decide_false, hTuple, sTryK, sRaise, Bool.false_eq_true, Bool.not_false, sz0, sz1, sz2, sz3, sz4, sz5, sz6, sz7, sz8]) el
  have ha := hAll_map F xs
  have el2 := lcL_all (vs := [4]) (g := kName 4) (fe := fCall d_p_is_whole (aCons (fVar 4) aNil)) PyData.int (fun _ : Int => .bool true) [.dat (.tuple [.int r, .tuple xs, .tuple (ns.map PyData.int)]), .dat (.int r), .dat (.tuple xs), .dat (.tuple (ns.map PyData.int)), .no] ns (by omega) (by
    intro x hx
    refine ⟨[.dat (.tuple [.int r, .tuple xs, .tuple (ns.map PyData.int)]), .dat (.int r), .dat (.tuple xs), .dat (.tuple (ns.map PyData.int)), .dat (.int x)], [.dat (.tuple [.int r, .tuple xs, .tuple (ns.map PyData.int)]), .dat (.int r), .dat (.tuple xs), .dat (.tuple (ns.map PyData.int)), .dat (.int x)], rfl, ?_, rfl⟩
    have ew := iswhole_any' (d := .int x) rfl
    rw [show isI (.int x) = true from rfl] at ew
    generalize PyData.tuple [.int r, .tuple xs, .tuple (ns.map PyData.int)] = A0
    generalize ns.map PyData.int = OO
    simp only [mkFn, sCons, sSet, sPar, sUnp, sIf, sRet, sRetN, sDrop, sNil, sBrk, sCnt, bndS, bnd, rt, opt, fVar, fVal, fBin, fUn, rd1, rd2, Rv.rd, Sl.rd, fD, fzM, Rv.fz, fCons, fNil, dCons, dNil, aCons, aNil, aBoxN, aBox, fCall, resolve, boxes, bxpos, wb, fNm, rdAll, fTup, fLst, hAdd, hSub, hInt2, hMulL, hLt, hLe, hGt, hGe, hNeg, hAbs, hLen, hInt1, hMax2, hMin2, hIx, fSl, oNone, oSome, hSl, fB, toB, fAnd, fOr, fNot, fAndV, fOrV, fNotV, fChain, kName, kTup, kCons, kNil, slOk, sStore, fMt, mtGo, hApp, hFdiv, hMod, hDivmod, outs, List.length_cons, List.length_nil, List.getElem?_cons_zero, List.getElem?_cons_succ, List.getElem?_nil, List.set_cons_zero, List.set_cons_succ, List.replicate_succ, List.replicate_zero, List.cons_append, List.nil_append, Option.bind_some, Option.map_some, cond_true, cond_false, ite_true, ite_false, Nat.reduceAdd, Nat.reduceSub, Nat.reduceEqDiff, Nat.reduceLeDiff, if_true, if_false, reduceIte, atI_n0, atI_n1, atI_n2, atI_n3, ixN_10, ixN_20, ixN_21, hEq_int, hNe_int, Bool.not_true, decide_true, decide_false, hTuple, sTryK, sRaise, Bool.false_eq_true, Bool.not_false, sz0, sz1, sz2, sz3, sz4, sz5, sz6, sz7, sz8, ew])
  have ec2 := fLc_of (f := fiS (fD (fVar 3))) (ds := ns.map PyData.int) (fs := [.dat (.tuple [.int r, .tuple xs, .tuple (ns.map PyData.int)]), .dat (.int r), .dat (.tuple xs), .dat (.tuple (ns.map PyData.int)), .no]) (fs1 := [.dat (.tuple [.int r, .tuple xs, .tuple (ns.map PyData.int)]), .dat (.int r), .dat (.tuple xs), .dat (.tuple (ns.map PyData.int)), .no]) (by
    generalize PyData.tuple [.int r, .tuple xs, .tuple (ns.map PyData.int)] = A0
    generalize ns.map PyData.int = OO
    simp only [fiS, asS, mkFn, sCons, sSet, sPar, sUnp, sIf, sRet, sRetN, sDrop, sNil, sBrk, sCnt, bndS, bnd, rt, opt, fVar, fVal, fBin, fUn, rd1, rd2, Rv.rd, Sl.rd, fD, fzM, Rv.fz, fCons, fNil, dCons, dNil, aCons, aNil, aBoxN, aBox, fCall, resolve, boxes, bxpos, wb, fNm, rdAll, fTup, fLst, hAdd, hSub, hInt2, hMulL, hLt, hLe, hGt, hGe, hNeg, hAbs, hLen, hInt1, hMax2, hMin2, hIx, fSl, oNone, oSome, hSl, fB, toB, fAnd, fOr, fNot, fAndV, fOrV, fNotV, fChain, kName, kTup, kCons, kNil, slOk, sStore, fMt, mtGo, hApp, hFdiv, hMod, hDivmod, outs, List.length_cons, List.length_nil, List.getElem?_cons_zero, List.getElem?_cons_succ, List.getElem?_nil, List.set_cons_zero, List.set_cons_succ, List.replicate_succ, List.replicate_zero, List.cons_append, List.nil_append, Option.bind_some, Option.map_some, cond_true, cond_false, ite_true, ite_false, Nat.reduceAdd, Nat.reduceSub, Nat.reduceEqDiff, Nat.reduceLeDiff, if_true, if_false, reduceIte, atI_n0, atI_n1, atI_n2, atI_n3, ixN_10, ixN_20, ixN_21, hEq_int, hNe_int, Bool.not_true, decide_true, decide_false, hTuple, sTryK, sRaise, Bool.false_eq_true, Bool.not_false, sz0, sz1, sz2, sz3, sz4, sz5, sz6, sz7, sz8]) el2
  have ha2 : hAll [.list (ns.map fun _ => .bool true)] = some (.val (.bool true)) := by
    rw [hAll_map (fun _ : Int => true) ns]
    simp
  have esrt : hSorted [.tuple (ns.map PyData.int)] = some (.fresh (.list ((srtI ns).map PyData.int))) := by simp only [hSorted, asInts_map]
  have eup := hLR1_nat (n := xs.length) (by omega)
  have eq := hEq_ints (srtI ns) (upto xs.length)
  generalize hAA : PyData.tuple [.int r, .tuple xs, .tuple (ns.map PyData.int)] = A0 at *
  have hS : [PyData.int r, .tuple xs, .tuple (ns.map PyData.int)] = [PyData.int r, .tuple xs, .tuple (ns.map PyData.int)] := rfl
  unfold d_p_is_change
  generalize fLc [4] (fiS (fD (fVar 2))) _ _ _ = E at ec ⊢
  generalize fLc [4] (fiS (fD (fVar 3))) _ _ _ = E2 at ec2 ⊢
  generalize ns.map (fun _ => PyData.bool true) = BT at *
  refine mkFn_ret (fs := [.dat A0, .dat (.int r), .dat (.tuple xs), .dat (.tuple (ns.map PyData.int)), .no]) rfl ?_
  show sCons _ _ [.dat A0, .no, .no, .no, .no] = _
  rw [sCons_nx (fs1 := [.dat A0, .no, .no, .no, .no]) (by
    subst hAA
    generalize [PyData.int r, .tuple xs, .tuple (ns.map PyData.int)] = DS at *
    simp only [mkFn, sCons, sSet, sPar, sUnp, sIf, sRet, sRetN, sDrop, sNil, sBrk, sCnt, bndS, bnd, rt, opt, fVar, fVal, fBin, fUn, rd1, rd2, Rv.rd, Sl.rd, fD, fzM, Rv.fz, fCons, fNil, dCons, dNil, aCons, aNil, aBoxN, aBox, fCall, resolve, boxes, bxpos, wb, fNm, rdAll, fTup, fLst, hAdd, hSub, hInt2, hMulL, hLt, hLe, hGt, hGe, hNeg, hAbs, hLen, hInt1, hMax2, hMin2, hIx, fSl, oNone, oSome, hSl, fB, toB, fAnd, fOr, fNot, fAndV, fOrV, fNotV, fChain, kName, kTup, kCons, kNil, slOk, sStore, fMt, mtGo, hApp, hFdiv, hMod, hDivmod, outs, List.length_cons, List.length_nil, List.getElem?_cons_zero, List.getElem?_cons_succ, List.getElem?_nil, List.set_cons_zero, List.set_cons_succ, List.replicate_succ, List.replicate_zero, List.cons_append, List.nil_append, Option.bind_some, Option.map_some, cond_true, cond_false, ite_true, ite_false, Nat.reduceAdd, Nat.reduceSub, Nat.reduceEqDiff, Nat.reduceLeDiff, if_true, if_false, reduceIte, atI_n0, atI_n1, atI_n2, atI_n3, ixN_10, ixN_20, ixN_21, hEq_int, hNe_int, Bool.not_true, decide_true, decide_false, hTuple, sTryK, sRaise, Bool.false_eq_true, Bool.not_false, sz0, sz1, sz2, sz3, sz4, sz5, sz6, sz7, sz8, e, dl, i0, hr])]
  rw [sCons_nx (fs1 := [.dat A0, .dat (.int r), .dat (.tuple xs), .dat (.tuple (ns.map PyData.int)), .no]) (by
    subst hAA
    generalize ns.map PyData.int = OO
    simp only [mkFn, sCons, sSet, sPar, sUnp, sIf, sRet, sRetN, sDrop, sNil, sBrk, sCnt, bndS, bnd, rt, opt, fVar, fVal, fBin, fUn, rd1, rd2, Rv.rd, Sl.rd, fD, fzM, Rv.fz, fCons, fNil, dCons, dNil, aCons, aNil, aBoxN, aBox, fCall, resolve, boxes, bxpos, wb, fNm, rdAll, fTup, fLst, hAdd, hSub, hInt2, hMulL, hLt, hLe, hGt, hGe, hNeg, hAbs, hLen, hInt1, hMax2, hMin2, hIx, fSl, oNone, oSome, hSl, fB, toB, fAnd, fOr, fNot, fAndV, fOrV, fNotV, fChain, kName, kTup, kCons, kNil, slOk, sStore, fMt, mtGo, hApp, hFdiv, hMod, hDivmod, outs, List.length_cons, List.length_nil, List.getElem?_cons_zero, List.getElem?_cons_succ, List.getElem?_nil, List.set_cons_zero, List.set_cons_succ, List.replicate_succ, List.replicate_zero, List.cons_append, List.nil_append, Option.bind_some, Option.map_some, cond_true, cond_false, ite_true, ite_false, Nat.reduceAdd, Nat.reduceSub, Nat.reduceEqDiff, Nat.reduceLeDiff, if_true, if_false, reduceIte, atI_n0, atI_n1, atI_n2, atI_n3, ixN_10, ixN_20, ixN_21, hEq_int, hNe_int, Bool.not_true, decide_true, decide_false, hTuple, sTryK, sRaise, Bool.false_eq_true, Bool.not_false, sz0, sz1, sz2, sz3, sz4, sz5, sz6, sz7, sz8])]
  generalize ns.map PyData.int = OO at *
  generalize (srtI ns).map PyData.int = SS at *
  generalize (upto xs.length).map PyData.int = UU at *
  rw [sCons_nx (fs1 := [.dat A0, .dat (.int r), .dat (.tuple xs), .dat (.tuple OO), .no]) (by simp only [mkFn, sCons, sSet, sPar, sUnp, sIf, sRet, sRetN, sDrop, sNil, sBrk, sCnt, bndS, bnd, rt, opt, fVar, fVal, fBin, fUn, rd1, rd2, Rv.rd, Sl.rd, fD, fzM, Rv.fz, fCons, fNil, dCons, dNil, aCons, aNil, aBoxN, aBox, fCall, resolve, boxes, bxpos, wb, fNm, rdAll, fTup, fLst, hAdd, hSub, hInt2, hMulL, hLt, hLe, hGt, hGe, hNeg, hAbs, hLen, hInt1, hMax2, hMin2, hIx, fSl, oNone, oSome, hSl, fB, toB, fAnd, fOr, fNot, fAndV, fOrV, fNotV, fChain, kName, kTup, kCons, kNil, slOk, sStore, fMt, mtGo, hApp, hFdiv, hMod, hDivmod, outs, List.length_cons, List.length_nil, List.getElem?_cons_zero, List.getElem?_cons_succ, List.getElem?_nil, List.set_cons_zero, List.set_cons_succ, List.replicate_succ, List.replicate_zero, List.cons_append, List.nil_append, Option.bind_some, Option.map_some, cond_true, cond_false, ite_true, ite_false, Nat.reduceAdd, Nat.reduceSub, Nat.reduceEqDiff, Nat.reduceLeDiff, if_true, if_false, reduceIte, atI_n0, atI_n1, atI_n2, atI_n3, ixN_10, ixN_20, ixN_21, hEq_int, hNe_int, Bool.not_true, decide_true, decide_false, hTuple, sTryK, sRaise, Bool.false_eq_true, Bool.not_false, sz0, sz1, sz2, sz3, sz4, sz5, sz6, sz7, sz8, ex, d1, d2])]
  cases hall : xs.all F with
  | false =>
    rw [hall] at ha
    rw [Bool.false_and]
    generalize xs.map (fun x => PyData.bool (F x)) = BX at *
    exact sCons_ret (by simp only [mkFn, sCons, sSet, sPar, sUnp, sIf, sRet, sRetN, sDrop, sNil, sBrk, sCnt, bndS, bnd, rt, opt, fVar, fVal, fBin, fUn, rd1, rd2, Rv.rd, Sl.rd, fD, fzM, Rv.fz, fCons, fNil, dCons, dNil, aCons, aNil, aBoxN, aBox, fCall, resolve, boxes, bxpos, wb, fNm, rdAll, fTup, fLst, hAdd, hSub, hInt2, hMulL, hLt, hLe, hGt, hGe, hNeg, hAbs, hLen, hInt1, hMax2, hMin2, hIx, fSl, oNone, oSome, hSl, fB, toB, fAnd, fOr, fNot, fAndV, fOrV, fNotV, fChain, kName, kTup, kCons, kNil, slOk, sStore, fMt, mtGo, hApp, hFdiv, hMod, hDivmod, outs, List.length_cons, List.length_nil, List.getElem?_cons_zero, List.getElem?_cons_succ, List.getElem?_nil, List.set_cons_zero, List.set_cons_succ, List.replicate_succ, List.replicate_zero, List.cons_append, List.nil_append, Option.bind_some, Option.map_some, cond_true, cond_false, ite_true, ite_false, Nat.reduceAdd, Nat.reduceSub, Nat.reduceEqDiff, Nat.reduceLeDiff, if_true, if_false, reduceIte, atI_n0, atI_n1, atI_n2, atI_n3, ixN_10, ixN_20, ixN_21, hEq_int, hNe_int, Bool.not_true, decide_true, decide_false, hTuple, sTryK, sRaise, Bool.false_eq_true, Bool.not_false, sz0, sz1, sz2, sz3, sz4, sz5, sz6, sz7, sz8, ec, ha])
  | true =>
    rw [hall] at ha
    rw [Bool.true_and]
    generalize xs.map (fun x => PyData.bool (F x)) = BX at *
    rw [sCons_nx (fs1 := [.dat A0, .dat (.int r), .dat (.tuple xs), .dat (.tuple OO), .no]) (by simp only [mkFn, sCons, sSet, sPar, sUnp, sIf, sRet, sRetN, sDrop, sNil, sBrk, sCnt, bndS, bnd, rt, opt, fVar, fVal, fBin, fUn, rd1, rd2, Rv.rd, Sl.rd, fD, fzM, Rv.fz, fCons, fNil, dCons, dNil, aCons, aNil, aBoxN, aBox, fCall, resolve, boxes, bxpos, wb, fNm, rdAll, fTup, fLst, hAdd, hSub, hInt2, hMulL, hLt, hLe, hGt, hGe, hNeg, hAbs, hLen, hInt1, hMax2, hMin2, hIx, fSl, oNone, oSome, hSl, fB, toB, fAnd, fOr, fNot, fAndV, fOrV, fNotV, fChain, kName, kTup, kCons, kNil, slOk, sStore, fMt, mtGo, hApp, hFdiv, hMod, hDivmod, outs, List.length_cons, List.length_nil, List.getElem?_cons_zero, List.getElem?_cons_succ, List.getElem?_nil, List.set_cons_zero, List.set_cons_succ, List.replicate_succ, List.replicate_zero, List.cons_append, List.nil_append, Option.bind_some, Option.map_some, cond_true, cond_false, ite_true, ite_false, Nat.reduceAdd, Nat.reduceSub, Nat.reduceEqDiff, Nat.reduceLeDiff, if_true, if_false, reduceIte, atI_n0, atI_n1, atI_n2, atI_n3, ixN_10, ixN_20, ixN_21, hEq_int, hNe_int, Bool.not_true, decide_true, decide_false, hTuple, sTryK, sRaise, Bool.false_eq_true, Bool.not_false, sz0, sz1, sz2, sz3, sz4, sz5, sz6, sz7, sz8, ec, ha])]
    rw [sCons_nx (fs1 := [.dat A0, .dat (.int r), .dat (.tuple xs), .dat (.tuple OO), .no]) (by simp only [mkFn, sCons, sSet, sPar, sUnp, sIf, sRet, sRetN, sDrop, sNil, sBrk, sCnt, bndS, bnd, rt, opt, fVar, fVal, fBin, fUn, rd1, rd2, Rv.rd, Sl.rd, fD, fzM, Rv.fz, fCons, fNil, dCons, dNil, aCons, aNil, aBoxN, aBox, fCall, resolve, boxes, bxpos, wb, fNm, rdAll, fTup, fLst, hAdd, hSub, hInt2, hMulL, hLt, hLe, hGt, hGe, hNeg, hAbs, hLen, hInt1, hMax2, hMin2, hIx, fSl, oNone, oSome, hSl, fB, toB, fAnd, fOr, fNot, fAndV, fOrV, fNotV, fChain, kName, kTup, kCons, kNil, slOk, sStore, fMt, mtGo, hApp, hFdiv, hMod, hDivmod, outs, List.length_cons, List.length_nil, List.getElem?_cons_zero, List.getElem?_cons_succ, List.getElem?_nil, List.set_cons_zero, List.set_cons_succ, List.replicate_succ, List.replicate_zero, List.cons_append, List.nil_append, Option.bind_some, Option.map_some, cond_true, cond_false, ite_true, ite_false, Nat.reduceAdd, Nat.reduceSub, Nat.reduceEqDiff, Nat.reduceLeDiff, if_true, if_false, reduceIte, atI_n0, atI_n1, atI_n2, atI_n3, ixN_10, ixN_20, ixN_21, hEq_int, hNe_int, Bool.not_true, decide_true, decide_false, hTuple, sTryK, sRaise, Bool.false_eq_true, Bool.not_false, sz0, sz1, sz2, sz3, sz4, sz5, sz6, sz7, sz8, eo, ec2, ha2])]
    simp only [mkFn, sCons, sSet, sPar, sUnp, sIf, sRet, sRetN, sDrop, sNil, sBrk, sCnt, bndS, bnd, rt, opt, fVar, fVal, fBin, fUn, rd1, rd2, Rv.rd, Sl.rd, fD, fzM, Rv.fz, fCons, fNil, dCons, dNil, aCons, aNil, aBoxN, aBox, fCall, resolve, boxes, bxpos, wb, fNm, rdAll, fTup, fLst, hAdd, hSub, hInt2, hMulL, hLt, hLe, hGt, hGe, hNeg, hAbs, hLen, hInt1, hMax2, hMin2, hIx, fSl, oNone, oSome, hSl, fB, toB, fAnd, fOr, fNot, fAndV, fOrV, fNotV, fChain, kName, kTup, kCons, kNil, slOk, sStore, fMt, mtGo, hApp, hFdiv, hMod, hDivmod, outs, List.length_cons, List.length_nil, List.getElem?_cons_zero, List.getElem?_cons_succ, List.getElem?_nil, List.set_cons_zero, List.set_cons_succ, List.replicate_succ, List.replicate_zero, List.cons_append, List.nil_append, Option.bind_some, Option.map_some, cond_true, cond_false, ite_true, ite_false, Nat.reduceAdd, Nat.reduceSub, Nat.reduceEqDiff, Nat.reduceLeDiff, if_true, if_false, reduceIte, atI_n0, atI_n1, atI_n2, atI_n3, ixN_10, ixN_20, ixN_21, hEq_int, hNe_int, Bool.not_true, decide_true, decide_false, hTuple, sTryK, sRaise, Bool.false_eq_true, Bool.not_false, sz0, sz1, sz2, sz3, sz4, sz5, sz6, sz7, sz8, esrt, eup, eq]
/-! ### odd things -/
noncomputable abbrev oddL : List D := [.none, .bool true, .bool false, .int (-1), .int 0, .int 1, .int 2, .str "", .str "0", .tuple [], .tuple [.int 0], .tuple [.int 0, .int 0, .int 1], .tuple [.int 1, .int 0, .int 0], .tuple [.int 0, .int 0, .int 2], .tuple [.bool true, .int 0, .int 1], .list [.int 0, .int 0, .int 1],
  .tuple [.int 2, .int 0, .int 4], .tuple [.int (-1), .int 0, .int 1], .tuple [.int 1000000000000000000000000000000000000000, .int 0, .int 1], .tuple [.int 1, .int 0, .int (-1)], .dict [], .tuple [.int 0, .int 0], .tuple [.int 0, .int 1, .int 1], .tuple [.tuple [.int 0, .int 0, .int 1]], .int 1000000000000000000000000000000000000000, .tuple [.int 0, .int 0, .int 0]]
theorem oddL_rm : ∀ e ∈ oddL, rm 2 e = true ∧ cost e ≤ 6100 := by
  have key : oddL.all (fun e => rm 2 e && decide (cost e ≤ 6100)) = true := by decide +kernel
  intro e he
  have h := List.all_eq_true.mp key e he
  simp only [Bool.and_eq_true, decide_eq_true_eq] at h
  exact h
theorem odd_ex (n : Int) : ∃ (n' : Int) (e : D), e ∈ oddL ∧ d_odd [.own 1 (.list [.int n])] = some (.inr (false, e), [.own 1 (.list [.int n'])]) := by
  obtain ⟨n', d, hd, et⟩ := take_nat n (m := 26) (by decide) (by decide)
  have et' : d_take [.own 1 (.list [.int n]), .dat (.int 26)] = _ := et
  have hl : d < oddL.length := hd
  have ha : atI oddL ((d : Nat) : Int) = some oddL[d] := by rw [atI_natE, List.getElem?_eq_getElem hl]
  have hok : oddL[d] ∈ oddL := List.getElem_mem hl
  generalize oddL[d] = e at *
  refine ⟨n', e, hok, ?_⟩
  have pw := pw39
  have e16 : ∀ k, k ≤ 100 → (k ≤ sizeLine) = True := fun k hk => eq_true (szl k (by omega))
  unfold d_odd
  refine mkFn_ret (fs := [.own 1 (.list [.int n']), .own 0 (.list oddL)]) rfl ?_
  show sCons _ _ [.own 1 (.list [.int n]), .no] = _
  rw [sCons_nx (fs1 := [.own 1 (.list [.int n]), .own 0 (.list (oddL.take 16))]) (by
    simp only [mkFn, sCons, sSet, sPar, sUnp, sIf, sRet, sRetN, sDrop, sNil, sBrk, sCnt, bndS, bnd, rt, opt, fVar, fVal, fBin, fUn, rd1, rd2, Rv.rd, Sl.rd, fD, fzM, Rv.fz, fCons, fNil, dCons, dNil, aCons, aNil, aBoxN, aBox, fCall, resolve, boxes, bxpos, wb, fNm, rdAll, fTup, fLst, hAdd, hSub, hInt2, hMulL, hLt, hLe, hGt, hGe, hNeg, hAbs, hLen, hInt1, hMax2, hMin2, hIx, fSl, oNone, oSome, hSl, fB, toB, fAnd, fOr, fNot, fAndV, fOrV, fNotV, fChain, kName, kTup, kCons, kNil, slOk, sStore, fMt, mtGo, hApp, hFdiv, hMod, hDivmod, outs, List.length_cons, List.length_nil, List.getElem?_cons_zero, List.getElem?_cons_succ, List.getElem?_nil, List.set_cons_zero, List.set_cons_succ, List.replicate_succ, List.replicate_zero, List.cons_append, List.nil_append, Option.bind_some, Option.map_some, cond_true, cond_false, ite_true, ite_false, Nat.reduceAdd, Nat.reduceSub, Nat.reduceEqDiff, Nat.reduceLeDiff, if_true, if_false, reduceIte, atI_n0, atI_n1, atI_n2, atI_n3, ixN_10, ixN_20, ixN_21, hEq_int, hNe_int, Bool.not_true, decide_true, decide_false, hTuple, sTryK, sRaise, Bool.false_eq_true, Bool.not_false, sz0, sz1, sz2, sz3, sz4, sz5, sz6, sz7, sz8, fDnew, e16 16 (by decide)] <;> rfl)]
  rw [sCons_nx (fs1 := [.own 1 (.list [.int n]), .own 0 (.list (oddL.take 24))]) (by
    show sSet _ _ [_, .own 0 (.list [_, _, _, _, _, _, _, _, _, _, _, _, _, _, _, _])] = _
    simp only [mkFn, sCons, sSet, sPar, sUnp, sIf, sRet, sRetN, sDrop, sNil, sBrk, sCnt, bndS, bnd, rt, opt, fVar, fVal, fBin, fUn, rd1, rd2, Rv.rd, Sl.rd, fD, fzM, Rv.fz, fCons, fNil, dCons, dNil, aCons, aNil, aBoxN, aBox, fCall, resolve, boxes, bxpos, wb, fNm, rdAll, fTup, fLst, hAdd, hSub, hInt2, hMulL, hLt, hLe, hGt, hGe, hNeg, hAbs, hLen, hInt1, hMax2, hMin2, hIx, fSl, oNone, oSome, hSl, fB, toB, fAnd, fOr, fNot, fAndV, fOrV, fNotV, fChain, kName, kTup, kCons, kNil, slOk, sStore, fMt, mtGo, hApp, hFdiv, hMod, hDivmod, outs, List.length_cons, List.length_nil, List.getElem?_cons_zero, List.getElem?_cons_succ, List.getElem?_nil, List.set_cons_zero, List.set_cons_succ, List.replicate_succ, List.replicate_zero, List.cons_append, List.nil_append, Option.bind_some, Option.map_some, cond_true, cond_false, ite_true, ite_false, Nat.reduceAdd, Nat.reduceSub, Nat.reduceEqDiff, Nat.reduceLeDiff, if_true, if_false, reduceIte, atI_n0, atI_n1, atI_n2, atI_n3, ixN_10, ixN_20, ixN_21, hEq_int, hNe_int, Bool.not_true, decide_true, decide_false, hTuple, sTryK, sRaise, Bool.false_eq_true, Bool.not_false, sz0, sz1, sz2, sz3, sz4, sz5, sz6, sz7, sz8, fDnew, pw, e16 24 (by decide)] <;> rfl)]
  rw [sCons_nx (fs1 := [.own 1 (.list [.int n]), .own 0 (.list oddL)]) (by
    show sSet _ _ [_, .own 0 (.list [_, _, _, _, _, _, _, _, _, _, _, _, _, _, _, _, _, _, _, _, _, _, _, _])] = _
    simp only [mkFn, sCons, sSet, sPar, sUnp, sIf, sRet, sRetN, sDrop, sNil, sBrk, sCnt, bndS, bnd, rt, opt, fVar, fVal, fBin, fUn, rd1, rd2, Rv.rd, Sl.rd, fD, fzM, Rv.fz, fCons, fNil, dCons, dNil, aCons, aNil, aBoxN, aBox, fCall, resolve, boxes, bxpos, wb, fNm, rdAll, fTup, fLst, hAdd, hSub, hInt2, hMulL, hLt, hLe, hGt, hGe, hNeg, hAbs, hLen, hInt1, hMax2, hMin2, hIx, fSl, oNone, oSome, hSl, fB, toB, fAnd, fOr, fNot, fAndV, fOrV, fNotV, fChain, kName, kTup, kCons, kNil, slOk, sStore, fMt, mtGo, hApp, hFdiv, hMod, hDivmod, outs, List.length_cons, List.length_nil, List.getElem?_cons_zero, List.getElem?_cons_succ, List.getElem?_nil, List.set_cons_zero, List.set_cons_succ, List.replicate_succ, List.replicate_zero, List.cons_append, List.nil_append, Option.bind_some, Option.map_some, cond_true, cond_false, ite_true, ite_false, Nat.reduceAdd, Nat.reduceSub, Nat.reduceEqDiff, Nat.reduceLeDiff, if_true, if_false, reduceIte, atI_n0, atI_n1, atI_n2, atI_n3, ixN_10, ixN_20, ixN_21, hEq_int, hNe_int, Bool.not_true, decide_true, decide_false, hTuple, sTryK, sRaise, Bool.false_eq_true, Bool.not_false, sz0, sz1, sz2, sz3, sz4, sz5, sz6, sz7, sz8, fDnew, pw, e16 26 (by decide)] <;> rfl)]
  clear hok
  have hz : oddL.length = 26 := rfl
  generalize oddL = OL at *
  have hz' : ((OL.length : Nat) : Int) = 26 := by rw [hz]; rfl
  simp only [mkFn, sCons, sSet, sPar, sUnp, sIf, sRet, sRetN, sDrop, sNil, sBrk, sCnt, bndS, bnd, rt, opt, fVar, fVal, fBin, fUn, rd1, rd2, Rv.rd, Sl.rd, fD, fzM, Rv.fz, fCons, fNil, dCons, dNil, aCons, aNil, aBoxN, aBox, fCall, resolve, boxes, bxpos, wb, fNm, rdAll, fTup, fLst, hAdd, hSub, hInt2, hMulL, hLt, hLe, hGt, hGe, hNeg, hAbs, hLen, hInt1, hMax2, hMin2, hIx, fSl, oNone, oSome, hSl, fB, toB, fAnd, fOr, fNot, fAndV, fOrV, fNotV, fChain, kName, kTup, kCons, kNil, slOk, sStore, fMt, mtGo, hApp, hFdiv, hMod, hDivmod, outs, List.length_cons, List.length_nil, List.getElem?_cons_zero, List.getElem?_cons_succ, List.getElem?_nil, List.set_cons_zero, List.set_cons_succ, List.replicate_succ, List.replicate_zero, List.cons_append, List.nil_append, Option.bind_some, Option.map_some, cond_true, cond_false, ite_true, ite_false, Nat.reduceAdd, Nat.reduceSub, Nat.reduceEqDiff, Nat.reduceLeDiff, if_true, if_false, reduceIte, atI_n0, atI_n1, atI_n2, atI_n3, ixN_10, ixN_20, ixN_21, hEq_int, hNe_int, Bool.not_true, decide_true, decide_false, hTuple, sTryK, sRaise, Bool.false_eq_true, Bool.not_false, sz0, sz1, sz2, sz3, sz4, sz5, sz6, sz7, sz8, hz', et', ha]
/-! ### which things are changes -/
theorem isch_odd : ∀ e ∈ oddL, d_p_is_change [.dat e] = some (.inr (false, .bool false), [.no]) := by
  intro e he
  have r0 := isroot_ok 0 (.inl rfl)
  have r2 := isroot_ok 2 (.inr (.inl rfl))
  have r1 := isroot_no (.int 1) rfl (fun i h => by cases h; exact .inr (.inl rfl))
  have rm1 := isroot_no (.int (-1)) rfl (fun i h => by cases h; exact .inl (by decide))
  have rb := isroot_no (.bool true) rfl (fun i h => by cases h)
  have rg := isroot_no (.int 1000000000000000000000000000000000000000) rfl (fun i h => by cases h; exact .inr (.inr (by decide)))
  have nt : ∀ i : Int, ∀ ds, PyData.int i ≠ .tuple ds := fun i ds h => by cases h
  unfold oddL at he
  simp only [List.mem_cons, List.not_mem_nil, or_false] at he
  rcases he with rfl | rfl | rfl | rfl | rfl | rfl | rfl | rfl | rfl | rfl | rfl | rfl | rfl | rfl | rfl | rfl | rfl | rfl | rfl | rfl | rfl | rfl | rfl | rfl | rfl | rfl
  · exact isch_nt rfl (fun ds h => by cases h)
  · exact isch_nt rfl (fun ds h => by cases h)
  · exact isch_nt rfl (fun ds h => by cases h)
  · exact isch_nt rfl (fun ds h => by cases h)
  · exact isch_nt rfl (fun ds h => by cases h)
  · exact isch_nt rfl (fun ds h => by cases h)
  · exact isch_nt rfl (fun ds h => by cases h)
  · exact isch_nt rfl (fun ds h => by cases h)
  · exact isch_nt rfl (fun ds h => by cases h)
  · exact isch_len (by decide)
  · exact isch_len (by show ¬ (1 : Nat) = 3; decide)
  · exact isch_nl r0 rfl (nt 0)
  · exact isch_root r1
  · exact isch_nl r0 rfl (nt 0)
  · exact isch_root rb
  · exact isch_nt rfl (fun ds h => by cases h)
  · exact isch_nl r2 rfl (nt 0)
  · exact isch_root rm1
  · exact isch_root rg
  · exact isch_root r1
  · exact isch_nt rfl (fun ds h => by cases h)
  · exact isch_len (by show ¬ (2 : Nat) = 3; decide)
  · exact isch_nl r0 rfl (nt 1)
  · exact isch_len (by show ¬ (1 : Nat) = 3; decide)
  · exact isch_nt rfl (fun ds h => by cases h)
  · exact isch_nl r0 rfl (nt 0)
theorem numok {r : Int} {a b c : Int} (bc : Bt 60 a ∧ Bt 60 b ∧ Bt 60 c) : d_p_is_number [.dat (.int r), .dat (tup3 a b c)] = some (.inr (false, .bool (isNumB r (tup3 a b c))), [.no, .no]) :=
  isnum_any rfl fun ds h e he => by
    cases h
    simp only [List.mem_cons, List.not_mem_nil, or_false] at he
    rcases he with rfl | rfl | rfl
    · exact ⟨rfl, fun i h => by cases h; exact bc.1.mono (by decide)⟩
    · exact ⟨rfl, fun i h => by cases h; exact bc.2.1.mono (by decide)⟩
    · exact ⟨rfl, fun i h => by cases h; exact bc.2.2.mono (by decide)⟩
theorem good_num {r : Int} {x : D} (hr : okRoot r) (h : GoodL r x) : d_p_is_number [.dat (.int r), .dat x] = some (.inr (false, .bool true), [.no, .no]) ∧ d_p_less [.dat (.int r), .dat g_NOUGHT, .dat x] = some (.inr (false, .bool true), [.no, .no, .no]) := by
  obtain ⟨p, rfl, bp, bp0⟩ := good_nm h
  obtain ⟨a, b, c, e, h1, h2, h3, h4, h5, h6, h7, h8, h9, h10⟩ := h
  constructor
  · rw [e, numok ⟨smallB (by omega), smallB (by omega), smallB (by omega)⟩]
    have : isNumB r (tup3 a b c) = (decide (1 ≤ c) && !(decide (r = 0) && !decide (b = 0)) && decide (g3 a b c = 1)) := rfl
    rw [this, decide_eq_true (show 1 ≤ c by omega), decide_eq_true h10]
    have : (decide (r = 0) && !decide (b = 0)) = false := by
      by_cases hz : r = 0
      · rw [decide_eq_true hz, decide_eq_true (h9 hz)]; rfl
      · rw [decide_eq_false hz]; rfl
    rw [this]; rfl
  · obtain ⟨a', b', c', e', n⟩ := nm_ex p.1 p.2
    obtain ⟨rfl, rfl, rfl⟩ := tup3_inj ((show nmP p = tup3 a' b' c' from e').symm.trans e)
    have h0 : r = 0 → (0 : Int) = 0 ∧ p.2 = 0 := fun z => ⟨rfl, (bp0 z).1⟩
    have bz : Bt 800 (0 : Int) := by decide
    have hl := nm_pless (A := 0) (B := 0) (A' := p.1) (B' := p.2) hr h0 bz bz (bp.1.mono (by decide)) (bp.2.mono (by decide))
    have hN : g_NOUGHT = nm 0 0 := nm00.symm
    rw [hN]
    refine hl.trans ?_
    have hn := negV_turn (r := r) (a := a') (b := b') hr (by omega) (by omega) h9 h8 h7
    have hs := negV_scale (r := r) (x := -a') (y := -b') (X := -p.1) (Y := -p.2) n.pos (by have := n.h1; rw [Int.neg_mul, this, Int.neg_mul]) (by have := n.h2; rw [Int.neg_mul, this, Int.neg_mul])
    rw [Int.zero_sub, Int.zero_sub, ← hs, hn]
/-- a change of ours: root, longs, order -/
abbrev Ch := Int × List D × List Int
abbrev chC (c : Ch) : D := chD c.1 c.2.1 c.2.2
structure ChOk (c : Ch) : Prop where
  h1 : 1 ≤ c.2.1.length
  h3 : c.2.1.length ≤ 3
  ho : c.2.2.Perm (upto c.2.1.length)
  is : d_p_is_change [.dat (chC c)] = some (.inr (false, .bool true), [.no])
  br : c.1.natAbs < 2 ^ 50
  bl : ∀ x ∈ c.2.1, ∃ a b d : Int, x = tup3 a b d ∧ a.natAbs < 2 ^ 50 ∧ b.natAbs < 2 ^ 50 ∧ d.natAbs < 2 ^ 50
theorem srt_perm {ns : List Int} {n : Nat} (h : ns.Perm (upto n)) : srtI ns = upto n := (srtI_of (ms := upto n) h.symm ((upto_rising n).imp fun z => by omega)).symm
theorem chok_good {r : Int} {longs : List D} {O : List Int} (hr : okRoot r) (hg : ∀ x ∈ longs, GoodL r x) (h1 : 1 ≤ longs.length) (h3 : longs.length ≤ 3) (hp : O.Perm (upto longs.length)) : ChOk (r, longs, O) := by
  refine ⟨h1, h3, hp, ?_, ?_, fun x hx => ?_⟩
  · have hr' : r = 0 ∨ r = 2 ∨ r = 3 ∨ r = 5 ∨ r = 6 ∨ r = 7 ∨ r = 11 ∨ r = 13 := by unfold okRoot at hr; omega
    have := isch_3 (F := fun _ => true) (isroot_ok r hr') h1 (by omega) (fun x hx => ⟨true, (good_num hr (hg x hx)).1, fun _ => (good_num hr (hg x hx)).2, fun h => by cases h⟩) (os := O.map PyData.int) rfl (by have := hp.length_eq; rw [upto_length] at this; omega)
    refine this.trans ?_
    rw [srt_perm hp, decide_eq_true rfl, List.all_eq_true.mpr fun _ _ => rfl]; rfl
  · unfold okRoot at hr
    show r.natAbs < 2 ^ 50
    omega
  · obtain ⟨a, b, c, e, _⟩ := hg x hx
    exact ⟨a, b, c, e, by omega, by omega, by omega⟩
noncomputable abbrev oC : Ch := (11, [tup3 1 0 1, tup3 1 0 1, tup3 1 0 1], [2, 1, 0])
theorem chok_other : ChOk oC := by
  refine ⟨by decide, by decide, by decide, ?_, by decide, fun x hx => ?_⟩
  · have hl : d_p_less [.dat (.int 11), .dat g_NOUGHT, .dat (tup3 1 0 1)] = some (.inr (false, .bool true), [.no, .no, .no]) := by
      have e := p_minus_eq (a := 0) (b := 0) (c := 1) (d := 1) (e := 0) (f := 1) (.int 11) (by decide) (by decide) (by decide) (by decide) (by decide) (by decide) (by decide) (by decide)
      have e' : d_p_minus [.dat (.int 11), .dat (.tuple [.int 0, .int 0, .int 1]), .dat (.tuple [.int 1, .int 0, .int 1])] = some (.inr (false, tup3 (-1) 0 1), [.no, .no, .no]) := e
      have es : d_p_sign_of [.dat (.int 11), .dat (tup3 (-1) 0 1)] = some (.inr (false, .int (-1)), [.no, .no]) := by
        have d1 : decide ((-1 : Int) = 0) = false := rfl
        have d2 : decide ((0 : Int) ≤ -1) = false := rfl
        have d3 : decide ((-1 : Int) ≤ 0) = true := rfl
        have d4 : decide ((0 : Int) ≤ 0) = true := rfl
        simp only [d_p_sign_of, mkFn, sCons, sSet, sPar, sUnp, sIf, sRet, sRetN, sDrop, sNil, sBrk, sCnt, bndS, bnd, rt, opt, fVar, fVal, fBin, fUn, rd1, rd2, Rv.rd, Sl.rd, fD, fzM, Rv.fz, fCons, fNil, dCons, dNil, aCons, aNil, aBoxN, aBox, fCall, resolve, boxes, bxpos, wb, fNm, rdAll, fTup, fLst, hAdd, hSub, hInt2, hMulL, hLt, hLe, hGt, hGe, hNeg, hAbs, hLen, hInt1, hMax2, hMin2, hIx, fSl, oNone, oSome, hSl, fB, toB, fAnd, fOr, fNot, fAndV, fOrV, fNotV, fChain, kName, kTup, kCons, kNil, slOk, sStore, fMt, mtGo, hApp, hFdiv, hMod, hDivmod, outs, List.length_cons, List.length_nil, List.getElem?_cons_zero, List.getElem?_cons_succ, List.getElem?_nil, List.set_cons_zero, List.set_cons_succ, List.replicate_succ, List.replicate_zero, List.cons_append, List.nil_append, Option.bind_some, Option.map_some, cond_true, cond_false, ite_true, ite_false, Nat.reduceAdd, Nat.reduceSub, Nat.reduceEqDiff, Nat.reduceLeDiff, if_true, if_false, reduceIte, atI_n0, atI_n1, atI_n2, atI_n3, ixN_10, ixN_20, ixN_21, hEq_int, hNe_int, Bool.not_true, decide_true, decide_false, hTuple, sTryK, sRaise, Bool.false_eq_true, Bool.not_false, sz0, sz1, sz2, sz3, sz4, sz5, sz6, sz7, sz8, d1, d2, d3, d4]
      generalize tup3 (-1) 0 1 = Z at *
      have d5 : decide ((-1 : Int) < 0) = true := rfl
      simp only [d_p_less, mkFn, sCons, sSet, sPar, sUnp, sIf, sRet, sRetN, sDrop, sNil, sBrk, sCnt, bndS, bnd, rt, opt, fVar, fVal, fBin, fUn, rd1, rd2, Rv.rd, Sl.rd, fD, fzM, Rv.fz, fCons, fNil, dCons, dNil, aCons, aNil, aBoxN, aBox, fCall, resolve, boxes, bxpos, wb, fNm, rdAll, fTup, fLst, hAdd, hSub, hInt2, hMulL, hLt, hLe, hGt, hGe, hNeg, hAbs, hLen, hInt1, hMax2, hMin2, hIx, fSl, oNone, oSome, hSl, fB, toB, fAnd, fOr, fNot, fAndV, fOrV, fNotV, fChain, kName, kTup, kCons, kNil, slOk, sStore, fMt, mtGo, hApp, hFdiv, hMod, hDivmod, outs, List.length_cons, List.length_nil, List.getElem?_cons_zero, List.getElem?_cons_succ, List.getElem?_nil, List.set_cons_zero, List.set_cons_succ, List.replicate_succ, List.replicate_zero, List.cons_append, List.nil_append, Option.bind_some, Option.map_some, cond_true, cond_false, ite_true, ite_false, Nat.reduceAdd, Nat.reduceSub, Nat.reduceEqDiff, Nat.reduceLeDiff, if_true, if_false, reduceIte, atI_n0, atI_n1, atI_n2, atI_n3, ixN_10, ixN_20, ixN_21, hEq_int, hNe_int, Bool.not_true, decide_true, decide_false, hTuple, sTryK, sRaise, Bool.false_eq_true, Bool.not_false, sz0, sz1, sz2, sz3, sz4, sz5, sz6, sz7, sz8, e', es, d5]
    have hn : d_p_is_number [.dat (.int 11), .dat (tup3 1 0 1)] = some (.inr (false, .bool true), [.no, .no]) := by
      rw [numok ⟨by decide, by decide, by decide⟩]
      rfl
    have := isch_3 (r := 11) (xs := [tup3 1 0 1, tup3 1 0 1, tup3 1 0 1]) (os := [.int 2, .int 1, .int 0]) (F := fun _ => true) (isroot_ok 11 (by omega)) (by decide) (by decide) (fun x hx => by
      simp only [List.mem_cons, List.not_mem_nil, or_false, or_self] at hx
      subst hx
      exact ⟨true, hn, fun _ => hl, fun h => by cases h⟩) (ns := [2, 1, 0]) rfl (by decide)
    refine this.trans ?_
    rw [srt_perm (show ([2, 1, 0] : List Int).Perm (upto 3) by decide)]
    rfl
  · simp only [List.mem_cons, List.not_mem_nil, or_false, or_self] at hx
    exact ⟨1, 0, 1, hx, by decide, by decide, by decide⟩
/-! ### laid side by side -/
def catC (a : List D × List Int) (c : Ch) : List D × List Int := (a.1 ++ c.2.1, a.2 ++ c.2.2.map fun x => x + ((a.1.length : Nat) : Int))
def addD (a : Int) : D → D
  | .int x => .int (x + a)
  | d => d
theorem add_map (l : List Int) (a : Int) : (l.map PyData.int).map (addD a) = (l.map fun x => x + a).map PyData.int := by
  rw [List.map_map, List.map_map]
  rfl
noncomputable abbrev sbB : SM := sCons (sSet 2 (fBin hAdd (fVar 2) (fNm hTuple (fCons (fLc [4] (fiS (fD (fBin hIx (fVar 3) (fVal (.int 2))))) (kName 4) tYesF (fBin hAdd (fVar 4) (fNm hLen (fCons (fVar 1) fNil)))) fNil))))
  (sSet 1 (fBin hAdd (fVar 1) (fBin hIx (fVar 3) (fVal (.int 1)))))
theorem ch_len {c : Ch} (h : ChOk c) : c.2.2.length = c.2.1.length := by rw [h.ho.length_eq, upto_length]
theorem sb_loop (S0 : Sl) : ∀ (cs : List Ch) (L : List D) (O : List Int) (s3 : Sl), (∀ c ∈ cs, ChOk c) → L.length + 3 * cs.length ≤ 300 → O.length = L.length →
    ∃ s3' : Sl, forL (kName 3) sbB (cs.map chC) [S0, .dat (.tuple L), .dat (.tuple (O.map PyData.int)), s3, .no] = some (.nx, [S0, .dat (.tuple (cs.foldl catC (L, O)).1), .dat (.tuple ((cs.foldl catC (L, O)).2.map PyData.int)), s3', .no])
  | [], L, O, s3, _, _, _ => ⟨s3, rfl⟩
  | c :: cs, L, O, s3, hc, hl, ho => by
    have hk := hc c List.mem_cons_self
    have h3 := hk.h3
    have hlo := ch_len hk
    rw [List.length_cons] at hl
    obtain ⟨s3', e⟩ := sb_loop S0 cs (L ++ c.2.1) (O ++ c.2.2.map fun x => x + ((L.length : Nat) : Int)) (.dat (chC c)) (fun x hx => hc x (List.mem_cons_of_mem _ hx)) (by rw [List.length_append]; omega) (by rw [List.length_append, List.length_append, List.length_map]; omega)
    refine ⟨s3', ?_⟩
    rw [List.map_cons, List.foldl_cons]
    refine Eq.trans (forL_nx (fs1 := [S0, .dat (.tuple L), .dat (.tuple (O.map PyData.int)), .dat (chC c), .no]) (fs2 := [S0, .dat (.tuple (L ++ c.2.1)), .dat (.tuple ((O ++ c.2.2.map fun x => x + ((L.length : Nat) : Int)).map PyData.int)), .dat (chC c), .no]) rfl ?_) e
    obtain ⟨r, l, o⟩ := c
    have el := lcL_map (vs := [4]) (g := kName 4) (fe := fBin hAdd (fVar 4) (fNm hLen (fCons (fVar 1) fNil))) (addD (L.length : Nat)) [S0, .dat (.tuple L), .dat (.tuple (O.map PyData.int)), .dat (chD r l o), .no] (o.map PyData.int) [] (by rw [List.length_nil, List.length_map]; exact szl _ (by show 0 + o.length ≤ _; simp only at hlo h3; omega)) (by
      intro e he
      obtain ⟨x, _, rfl⟩ := List.mem_map.mp he
      exact ⟨_, rfl, [S0, .dat (.tuple L), .dat (.tuple (O.map PyData.int)), .dat (chD r l o), .dat (.int x)], rfl, rfl⟩)
    rw [List.nil_append, add_map] at el
    have er : fiS (fD (fBin hIx (fVar 3) (fVal (.int 2)))) [S0, .dat (.tuple L), .dat (.tuple (O.map PyData.int)), .dat (chD r l o), .no] = some (.inr (o.map PyData.int), [S0, .dat (.tuple L), .dat (.tuple (O.map PyData.int)), .dat (chD r l o), .no]) := by
      show fiS _ [S0, .dat (.tuple L), .dat (.tuple (O.map PyData.int)), .dat (.tuple [.int r, .tuple l, .tuple (o.map PyData.int)]), .no] = some (.inr (o.map PyData.int), [S0, .dat (.tuple L), .dat (.tuple (O.map PyData.int)), .dat (.tuple [.int r, .tuple l, .tuple (o.map PyData.int)]), .no])
      generalize O.map PyData.int = OO
      generalize o.map PyData.int = oo
      simp only [fiS, asS, mkFn, sCons, sSet, sPar, sUnp, sIf, sRet, sRetN, sDrop, sNil, sBrk, sCnt, bndS, bnd, rt, opt, fVar, fVal, fBin, fUn, rd1, rd2, Rv.rd, Sl.rd, fD, fzM, Rv.fz, fCons, fNil, dCons, dNil, aCons, aNil, aBoxN, aBox, fCall, resolve, boxes, bxpos, wb, fNm, rdAll, fTup, fLst, hAdd, hSub, hInt2, hMulL, hLt, hLe, hGt, hGe, hNeg, hAbs, hLen, hInt1, hMax2, hMin2, hIx, fSl, oNone, oSome, hSl, fB, toB, fAnd, fOr, fNot, fAndV, fOrV, fNotV, fChain, kName, kTup, kCons, kNil, slOk, sStore, fMt, mtGo, hApp, hFdiv, hMod, hDivmod, outs, List.length_cons, List.length_nil, List.getElem?_cons_zero, List.getElem?_cons_succ, List.getElem?_nil, List.set_cons_zero, List.set_cons_succ, List.replicate_succ, List.replicate_zero, List.cons_append, List.nil_append, Option.bind_some, Option.map_some, cond_true, cond_false, ite_true, ite_false, Nat.reduceAdd, Nat.reduceSub, Nat.reduceEqDiff, Nat.reduceLeDiff, if_true, if_false, reduceIte, atI_n0, atI_n1, atI_n2, atI_n3, ixN_10, ixN_20, ixN_21, hEq_int, hNe_int, Bool.not_true, decide_true, decide_false, hTuple, sTryK, sRaise, Bool.false_eq_true, Bool.not_false, sz0, sz1, sz2, sz3, sz4, sz5, sz6, sz7, sz8]
    have ee := fLc_of er el
    simp only at hlo h3
    have z1 : ((O.map PyData.int).length + ((o.map fun x => x + ((L.length : Nat) : Int)).map PyData.int).length ≤ sizeLine) = True := eq_true (by rw [List.length_map, List.length_map, List.length_map]; exact szl _ (by omega))
    have z2 : (L.length + l.length ≤ sizeLine) = True := eq_true (szl _ (by omega))
    have hC : chC (r, l, o) = .tuple [.int r, .tuple l, .tuple (o.map PyData.int)] := rfl
    show sbB [S0, .dat (.tuple L), .dat (.tuple (O.map PyData.int)), .dat (chD r l o), .no] = some (.nx, [S0, .dat (.tuple (L ++ l)), .dat (.tuple ((O ++ o.map fun x => x + ((L.length : Nat) : Int)).map PyData.int)), .dat (chD r l o), .no])
    rw [List.map_append]
    unfold sbB
    generalize fLc [4] _ _ _ _ = E at ee ⊢
    generalize (o.map fun x => x + ((L.length : Nat) : Int)).map PyData.int = P at ee z1 ⊢
    generalize O.map PyData.int = OO at *
    rw [sCons_nx (fs1 := [S0, .dat (.tuple L), .dat (.tuple (OO ++ P)), .dat (chD r l o), .no]) (by
      generalize chD r l o = C at *
      simp only [mkFn, sCons, sSet, sPar, sUnp, sIf, sRet, sRetN, sDrop, sNil, sBrk, sCnt, bndS, bnd, rt, opt, fVar, fVal, fBin, fUn, rd1, rd2, Rv.rd, Sl.rd, fD, fzM, Rv.fz, fCons, fNil, dCons, dNil, aCons, aNil, aBoxN, aBox, fCall, resolve, boxes, bxpos, wb, fNm, rdAll, fTup, fLst, hAdd, hSub, hInt2, hMulL, hLt, hLe, hGt, hGe, hNeg, hAbs, hLen, hInt1, hMax2, hMin2, hIx, fSl, oNone, oSome, hSl, fB, toB, fAnd, fOr, fNot, fAndV, fOrV, fNotV, fChain, kName, kTup, kCons, kNil, slOk, sStore, fMt, mtGo, hApp, hFdiv, hMod, hDivmod, outs, List.length_cons, List.length_nil, List.getElem?_cons_zero, List.getElem?_cons_succ, List.getElem?_nil, List.set_cons_zero, List.set_cons_succ, List.replicate_succ, List.replicate_zero, List.cons_append, List.nil_append, Option.bind_some, Option.map_some, cond_true, cond_false, ite_true, ite_false, Nat.reduceAdd, Nat.reduceSub, Nat.reduceEqDiff, Nat.reduceLeDiff, if_true, if_false, reduceIte, atI_n0, atI_n1, atI_n2, atI_n3, ixN_10, ixN_20, ixN_21, hEq_int, hNe_int, Bool.not_true, decide_true, decide_false, hTuple, sTryK, sRaise, Bool.false_eq_true, Bool.not_false, sz0, sz1, sz2, sz3, sz4, sz5, sz6, sz7, sz8, ee, z1])]
    generalize o.map PyData.int = oo at *
    simp only [mkFn, sCons, sSet, sPar, sUnp, sIf, sRet, sRetN, sDrop, sNil, sBrk, sCnt, bndS, bnd, rt, opt, fVar, fVal, fBin, fUn, rd1, rd2, Rv.rd, Sl.rd, fD, fzM, Rv.fz, fCons, fNil, dCons, dNil, aCons, aNil, aBoxN, aBox, fCall, resolve, boxes, bxpos, wb, fNm, rdAll, fTup, fLst, hAdd, hSub, hInt2, hMulL, hLt, hLe, hGt, hGe, hNeg, hAbs, hLen, hInt1, hMax2, hMin2, hIx, fSl, oNone, oSome, hSl, fB, toB, fAnd, fOr, fNot, fAndV, fOrV, fNotV, fChain, kName, kTup, kCons, kNil, slOk, sStore, fMt, mtGo, hApp, hFdiv, hMod, hDivmod, outs, List.length_cons, List.length_nil, List.getElem?_cons_zero, List.getElem?_cons_succ, List.getElem?_nil, List.set_cons_zero, List.set_cons_succ, List.replicate_succ, List.replicate_zero, List.cons_append, List.nil_append, Option.bind_some, Option.map_some, cond_true, cond_false, ite_true, ite_false, Nat.reduceAdd, Nat.reduceSub, Nat.reduceEqDiff, Nat.reduceLeDiff, if_true, if_false, reduceIte, atI_n0, atI_n1, atI_n2, atI_n3, ixN_10, ixN_20, ixN_21, hEq_int, hNe_int, Bool.not_true, decide_true, decide_false, hTuple, sTryK, sRaise, Bool.false_eq_true, Bool.not_false, sz0, sz1, sz2, sz3, sz4, sz5, sz6, sz7, sz8, z2]
noncomputable abbrev duB : SM := sCons (sSet 2 (fBin hAdd (fVar 2) (fNm hTuple (fCons (fLc [6] (fiS (fD (fVar 5))) (kName 6) tYesF (fBin hAdd (fVar 6) (fNm hLen (fCons (fVar 1) fNil)))) fNil))))
  (sSet 1 (fBin hAdd (fVar 1) (fVar 4)))
theorem du_loop (S0 : Sl) : ∀ (cs : List Ch) (L : List D) (O : List Int) (s3 s4 s5 : Sl), (∀ c ∈ cs, ChOk c) → L.length + 3 * cs.length ≤ 300 → O.length = L.length →
    ∃ s3' s4' s5' : Sl, forL (kTup 3 (kCons (kName 3) (kCons (kName 4) (kCons (kName 5) kNil)))) duB (cs.map chC) [S0, .dat (.tuple L), .dat (.tuple (O.map PyData.int)), s3, s4, s5, .no] = some (.nx, [S0, .dat (.tuple (cs.foldl catC (L, O)).1), .dat (.tuple ((cs.foldl catC (L, O)).2.map PyData.int)), s3', s4', s5', .no])
  | [], L, O, s3, s4, s5, _, _, _ => ⟨s3, s4, s5, rfl⟩
  | c :: cs, L, O, s3, s4, s5, hc, hl, ho => by
    have hk := hc c List.mem_cons_self
    have h3 := hk.h3
    have hlo := ch_len hk
    rw [List.length_cons] at hl
    obtain ⟨r, l, o⟩ := c
    obtain ⟨s3', s4', s5', e⟩ := du_loop S0 cs (L ++ l) (O ++ o.map fun x => x + ((L.length : Nat) : Int)) (.dat (.int r)) (.dat (.tuple l)) (.dat (.tuple (o.map PyData.int))) (fun x hx => hc x (List.mem_cons_of_mem _ hx)) (by rw [List.length_append]; simp only at h3; omega) (by rw [List.length_append, List.length_append, List.length_map]; simp only at hlo; omega)
    refine ⟨s3', s4', s5', ?_⟩
    rw [List.map_cons, List.foldl_cons]
    refine Eq.trans (forL_nx (fs1 := [S0, .dat (.tuple L), .dat (.tuple (O.map PyData.int)), .dat (.int r), .dat (.tuple l), .dat (.tuple (o.map PyData.int)), .no]) (fs2 := [S0, .dat (.tuple (L ++ l)), .dat (.tuple ((O ++ o.map fun x => x + ((L.length : Nat) : Int)).map PyData.int)), .dat (.int r), .dat (.tuple l), .dat (.tuple (o.map PyData.int)), .no]) rfl ?_) e
    have el := lcL_map (vs := [6]) (g := kName 6) (fe := fBin hAdd (fVar 6) (fNm hLen (fCons (fVar 1) fNil))) (addD (L.length : Nat)) [S0, .dat (.tuple L), .dat (.tuple (O.map PyData.int)), .dat (.int r), .dat (.tuple l), .dat (.tuple (o.map PyData.int)), .no] (o.map PyData.int) [] (by rw [List.length_nil, List.length_map]; exact szl _ (by show 0 + o.length ≤ _; simp only at hlo h3; omega)) (by
      intro e he
      obtain ⟨x, _, rfl⟩ := List.mem_map.mp he
      exact ⟨_, rfl, [S0, .dat (.tuple L), .dat (.tuple (O.map PyData.int)), .dat (.int r), .dat (.tuple l), .dat (.tuple (o.map PyData.int)), .dat (.int x)], rfl, rfl⟩)
    rw [List.nil_append, add_map] at el
    have er : fiS (fD (fVar 5)) [S0, .dat (.tuple L), .dat (.tuple (O.map PyData.int)), .dat (.int r), .dat (.tuple l), .dat (.tuple (o.map PyData.int)), .no] = some (.inr (o.map PyData.int), [S0, .dat (.tuple L), .dat (.tuple (O.map PyData.int)), .dat (.int r), .dat (.tuple l), .dat (.tuple (o.map PyData.int)), .no]) := by
      generalize O.map PyData.int = OO
      generalize o.map PyData.int = oo
      simp only [fiS, asS, mkFn, sCons, sSet, sPar, sUnp, sIf, sRet, sRetN, sDrop, sNil, sBrk, sCnt, bndS, bnd, rt, opt, fVar, fVal, fBin, fUn, rd1, rd2, Rv.rd, Sl.rd, fD, fzM, Rv.fz, fCons, fNil, dCons, dNil, aCons, aNil, aBoxN, aBox, fCall, resolve, boxes, bxpos, wb, fNm, rdAll, fTup, fLst, hAdd, hSub, hInt2, hMulL, hLt, hLe, hGt, hGe, hNeg, hAbs, hLen, hInt1, hMax2, hMin2, hIx, fSl, oNone, oSome, hSl, fB, toB, fAnd, fOr, fNot, fAndV, fOrV, fNotV, fChain, kName, kTup, kCons, kNil, slOk, sStore, fMt, mtGo, hApp, hFdiv, hMod, hDivmod, outs, List.length_cons, List.length_nil, List.getElem?_cons_zero, List.getElem?_cons_succ, List.getElem?_nil, List.set_cons_zero, List.set_cons_succ, List.replicate_succ, List.replicate_zero, List.cons_append, List.nil_append, Option.bind_some, Option.map_some, cond_true, cond_false, ite_true, ite_false, Nat.reduceAdd, Nat.reduceSub, Nat.reduceEqDiff, Nat.reduceLeDiff, if_true, if_false, reduceIte, atI_n0, atI_n1, atI_n2, atI_n3, ixN_10, ixN_20, ixN_21, hEq_int, hNe_int, Bool.not_true, decide_true, decide_false, hTuple, sTryK, sRaise, Bool.false_eq_true, Bool.not_false, sz0, sz1, sz2, sz3, sz4, sz5, sz6, sz7, sz8]
    have ee := fLc_of er el
    simp only at hlo h3
    have z1 : ((O.map PyData.int).length + ((o.map fun x => x + ((L.length : Nat) : Int)).map PyData.int).length ≤ sizeLine) = True := eq_true (by rw [List.length_map, List.length_map, List.length_map]; exact szl _ (by omega))
    have z2 : (L.length + l.length ≤ sizeLine) = True := eq_true (szl _ (by omega))
    rw [List.map_append]
    unfold duB
    generalize fLc [6] _ _ _ _ = E at ee ⊢
    generalize (o.map fun x => x + ((L.length : Nat) : Int)).map PyData.int = P at ee z1 ⊢
    generalize O.map PyData.int = OO at *
    generalize o.map PyData.int = oo at *
    rw [sCons_nx (fs1 := [S0, .dat (.tuple L), .dat (.tuple (OO ++ P)), .dat (.int r), .dat (.tuple l), .dat (.tuple oo), .no]) (by
      simp only [mkFn, sCons, sSet, sPar, sUnp, sIf, sRet, sRetN, sDrop, sNil, sBrk, sCnt, bndS, bnd, rt, opt, fVar, fVal, fBin, fUn, rd1, rd2, Rv.rd, Sl.rd, fD, fzM, Rv.fz, fCons, fNil, dCons, dNil, aCons, aNil, aBoxN, aBox, fCall, resolve, boxes, bxpos, wb, fNm, rdAll, fTup, fLst, hAdd, hSub, hInt2, hMulL, hLt, hLe, hGt, hGe, hNeg, hAbs, hLen, hInt1, hMax2, hMin2, hIx, fSl, oNone, oSome, hSl, fB, toB, fAnd, fOr, fNot, fAndV, fOrV, fNotV, fChain, kName, kTup, kCons, kNil, slOk, sStore, fMt, mtGo, hApp, hFdiv, hMod, hDivmod, outs, List.length_cons, List.length_nil, List.getElem?_cons_zero, List.getElem?_cons_succ, List.getElem?_nil, List.set_cons_zero, List.set_cons_succ, List.replicate_succ, List.replicate_zero, List.cons_append, List.nil_append, Option.bind_some, Option.map_some, cond_true, cond_false, ite_true, ite_false, Nat.reduceAdd, Nat.reduceSub, Nat.reduceEqDiff, Nat.reduceLeDiff, if_true, if_false, reduceIte, atI_n0, atI_n1, atI_n2, atI_n3, ixN_10, ixN_20, ixN_21, hEq_int, hNe_int, Bool.not_true, decide_true, decide_false, hTuple, sTryK, sRaise, Bool.false_eq_true, Bool.not_false, sz0, sz1, sz2, sz3, sz4, sz5, sz6, sz7, sz8, ee, z1])]
    simp only [mkFn, sCons, sSet, sPar, sUnp, sIf, sRet, sRetN, sDrop, sNil, sBrk, sCnt, bndS, bnd, rt, opt, fVar, fVal, fBin, fUn, rd1, rd2, Rv.rd, Sl.rd, fD, fzM, Rv.fz, fCons, fNil, dCons, dNil, aCons, aNil, aBoxN, aBox, fCall, resolve, boxes, bxpos, wb, fNm, rdAll, fTup, fLst, hAdd, hSub, hInt2, hMulL, hLt, hLe, hGt, hGe, hNeg, hAbs, hLen, hInt1, hMax2, hMin2, hIx, fSl, oNone, oSome, hSl, fB, toB, fAnd, fOr, fNot, fAndV, fOrV, fNotV, fChain, kName, kTup, kCons, kNil, slOk, sStore, fMt, mtGo, hApp, hFdiv, hMod, hDivmod, outs, List.length_cons, List.length_nil, List.getElem?_cons_zero, List.getElem?_cons_succ, List.getElem?_nil, List.set_cons_zero, List.set_cons_succ, List.replicate_succ, List.replicate_zero, List.cons_append, List.nil_append, Option.bind_some, Option.map_some, cond_true, cond_false, ite_true, ite_false, Nat.reduceAdd, Nat.reduceSub, Nat.reduceEqDiff, Nat.reduceLeDiff, if_true, if_false, reduceIte, atI_n0, atI_n1, atI_n2, atI_n3, ixN_10, ixN_20, ixN_21, hEq_int, hNe_int, Bool.not_true, decide_true, decide_false, hTuple, sTryK, sRaise, Bool.false_eq_true, Bool.not_false, sz0, sz1, sz2, sz3, sz4, sz5, sz6, sz7, sz8, z2]
theorem due_eq {c : Ch} {cs : List Ch} (hc : ∀ x ∈ c :: cs, ChOk x) (hl : cs.length ≤ 40) : d_due [.dat (.list ((c :: cs).map chC))] = some (.inr (false, chD c.1 ((c :: cs).foldl catC ([], [])).1 ((c :: cs).foldl catC ([], [])).2), [.no]) := by
  obtain ⟨s3, s4, s5, e⟩ := du_loop (.dat (.list ((c :: cs).map chC))) (c :: cs) [] [] .no .no .no hc (by rw [List.length_nil, List.length_cons]; omega) rfl
  have i0 : atI ((c :: cs).map chC) 0 = some (chC c) := by rw [show (0 : Int) = ((0 : Nat) : Int) from rfl, atI_natE]; rfl
  have j0 : chC c = .tuple [.int c.1, .tuple c.2.1, .tuple (c.2.2.map PyData.int)] := rfl
  generalize (c :: cs).foldl catC ([], []) = R at *
  rw [show chD c.1 R.1 R.2 = .tuple [.int c.1, .tuple R.1, .tuple (R.2.map PyData.int)] from rfl]
  rw [List.map_nil] at e
  unfold d_due
  refine mkFn_ret (fs := [.dat (.list ((c :: cs).map chC)), .dat (.tuple R.1), .dat (.tuple (R.2.map PyData.int)), s3, s4, s5, .no]) rfl ?_
  show sCons _ _ [.dat (.list ((c :: cs).map chC)), .no, .no, .no, .no, .no, .no] = _
  have er : fiS (fD (fVar 0)) [.dat (.list ((c :: cs).map chC)), .dat (.tuple []), .dat (.tuple []), .no, .no, .no, .no] = some (.inr ((c :: cs).map chC), [.dat (.list ((c :: cs).map chC)), .dat (.tuple []), .dat (.tuple []), .no, .no, .no, .no]) := by
    generalize (c :: cs).map chC = CL
    simp only [fiS, asS, mkFn, sCons, sSet, sPar, sUnp, sIf, sRet, sRetN, sDrop, sNil, sBrk, sCnt, bndS, bnd, rt, opt, fVar, fVal, fBin, fUn, rd1, rd2, Rv.rd, Sl.rd, fD, fzM, Rv.fz, fCons, fNil, dCons, dNil, aCons, aNil, aBoxN, aBox, fCall, resolve, boxes, bxpos, wb, fNm, rdAll, fTup, fLst, hAdd, hSub, hInt2, hMulL, hLt, hLe, hGt, hGe, hNeg, hAbs, hLen, hInt1, hMax2, hMin2, hIx, fSl, oNone, oSome, hSl, fB, toB, fAnd, fOr, fNot, fAndV, fOrV, fNotV, fChain, kName, kTup, kCons, kNil, slOk, sStore, fMt, mtGo, hApp, hFdiv, hMod, hDivmod, outs, List.length_cons, List.length_nil, List.getElem?_cons_zero, List.getElem?_cons_succ, List.getElem?_nil, List.set_cons_zero, List.set_cons_succ, List.replicate_succ, List.replicate_zero, List.cons_append, List.nil_append, Option.bind_some, Option.map_some, cond_true, cond_false, ite_true, ite_false, Nat.reduceAdd, Nat.reduceSub, Nat.reduceEqDiff, Nat.reduceLeDiff, if_true, if_false, reduceIte, atI_n0, atI_n1, atI_n2, atI_n3, ixN_10, ixN_20, ixN_21, hEq_int, hNe_int, Bool.not_true, decide_true, decide_false, hTuple, sTryK, sRaise, Bool.false_eq_true, Bool.not_false, sz0, sz1, sz2, sz3, sz4, sz5, sz6, sz7, sz8]
  generalize (c :: cs).map chC = CL at *
  generalize R.2.map PyData.int = RO at *
  generalize c.2.2.map PyData.int = OO at *
  rw [sCons_nx (fs1 := [.dat (.list CL), .dat (.tuple []), .no, .no, .no, .no, .no]) (by simp only [mkFn, sCons, sSet, sPar, sUnp, sIf, sRet, sRetN, sDrop, sNil, sBrk, sCnt, bndS, bnd, rt, opt, fVar, fVal, fBin, fUn, rd1, rd2, Rv.rd, Sl.rd, fD, fzM, Rv.fz, fCons, fNil, dCons, dNil, aCons, aNil, aBoxN, aBox, fCall, resolve, boxes, bxpos, wb, fNm, rdAll, fTup, fLst, hAdd, hSub, hInt2, hMulL, hLt, hLe, hGt, hGe, hNeg, hAbs, hLen, hInt1, hMax2, hMin2, hIx, fSl, oNone, oSome, hSl, fB, toB, fAnd, fOr, fNot, fAndV, fOrV, fNotV, fChain, kName, kTup, kCons, kNil, slOk, sStore, fMt, mtGo, hApp, hFdiv, hMod, hDivmod, outs, List.length_cons, List.length_nil, List.getElem?_cons_zero, List.getElem?_cons_succ, List.getElem?_nil, List.set_cons_zero, List.set_cons_succ, List.replicate_succ, List.replicate_zero, List.cons_append, List.nil_append, Option.bind_some, Option.map_some, cond_true, cond_false, ite_true, ite_false, Nat.reduceAdd, Nat.reduceSub, Nat.reduceEqDiff, Nat.reduceLeDiff, if_true, if_false, reduceIte, atI_n0, atI_n1, atI_n2, atI_n3, ixN_10, ixN_20, ixN_21, hEq_int, hNe_int, Bool.not_true, decide_true, decide_false, hTuple, sTryK, sRaise, Bool.false_eq_true, Bool.not_false, sz0, sz1, sz2, sz3, sz4, sz5, sz6, sz7, sz8])]
  rw [sCons_nx (fs1 := [.dat (.list CL), .dat (.tuple []), .dat (.tuple []), .no, .no, .no, .no]) (by simp only [mkFn, sCons, sSet, sPar, sUnp, sIf, sRet, sRetN, sDrop, sNil, sBrk, sCnt, bndS, bnd, rt, opt, fVar, fVal, fBin, fUn, rd1, rd2, Rv.rd, Sl.rd, fD, fzM, Rv.fz, fCons, fNil, dCons, dNil, aCons, aNil, aBoxN, aBox, fCall, resolve, boxes, bxpos, wb, fNm, rdAll, fTup, fLst, hAdd, hSub, hInt2, hMulL, hLt, hLe, hGt, hGe, hNeg, hAbs, hLen, hInt1, hMax2, hMin2, hIx, fSl, oNone, oSome, hSl, fB, toB, fAnd, fOr, fNot, fAndV, fOrV, fNotV, fChain, kName, kTup, kCons, kNil, slOk, sStore, fMt, mtGo, hApp, hFdiv, hMod, hDivmod, outs, List.length_cons, List.length_nil, List.getElem?_cons_zero, List.getElem?_cons_succ, List.getElem?_nil, List.set_cons_zero, List.set_cons_succ, List.replicate_succ, List.replicate_zero, List.cons_append, List.nil_append, Option.bind_some, Option.map_some, cond_true, cond_false, ite_true, ite_false, Nat.reduceAdd, Nat.reduceSub, Nat.reduceEqDiff, Nat.reduceLeDiff, if_true, if_false, reduceIte, atI_n0, atI_n1, atI_n2, atI_n3, ixN_10, ixN_20, ixN_21, hEq_int, hNe_int, Bool.not_true, decide_true, decide_false, hTuple, sTryK, sRaise, Bool.false_eq_true, Bool.not_false, sz0, sz1, sz2, sz3, sz4, sz5, sz6, sz7, sz8])]
  rw [sCons_nx (fs1 := [.dat (.list CL), .dat (.tuple R.1), .dat (.tuple RO), s3, s4, s5, .no]) (by rw [sFor_of er]; exact e)]
  rw [j0] at i0
  simp only [mkFn, sCons, sSet, sPar, sUnp, sIf, sRet, sRetN, sDrop, sNil, sBrk, sCnt, bndS, bnd, rt, opt, fVar, fVal, fBin, fUn, rd1, rd2, Rv.rd, Sl.rd, fD, fzM, Rv.fz, fCons, fNil, dCons, dNil, aCons, aNil, aBoxN, aBox, fCall, resolve, boxes, bxpos, wb, fNm, rdAll, fTup, fLst, hAdd, hSub, hInt2, hMulL, hLt, hLe, hGt, hGe, hNeg, hAbs, hLen, hInt1, hMax2, hMin2, hIx, fSl, oNone, oSome, hSl, fB, toB, fAnd, fOr, fNot, fAndV, fOrV, fNotV, fChain, kName, kTup, kCons, kNil, slOk, sStore, fMt, mtGo, hApp, hFdiv, hMod, hDivmod, outs, List.length_cons, List.length_nil, List.getElem?_cons_zero, List.getElem?_cons_succ, List.getElem?_nil, List.set_cons_zero, List.set_cons_succ, List.replicate_succ, List.replicate_zero, List.cons_append, List.nil_append, Option.bind_some, Option.map_some, cond_true, cond_false, ite_true, ite_false, Nat.reduceAdd, Nat.reduceSub, Nat.reduceEqDiff, Nat.reduceLeDiff, if_true, if_false, reduceIte, atI_n0, atI_n1, atI_n2, atI_n3, ixN_10, ixN_20, ixN_21, hEq_int, hNe_int, Bool.not_true, decide_true, decide_false, hTuple, sTryK, sRaise, Bool.false_eq_true, Bool.not_false, sz0, sz1, sz2, sz3, sz4, sz5, sz6, sz7, sz8, i0]
/-! what is laid side by side -/
theorem sbs_form {d : D} (hs : notScr d = true) (h : (∀ ds, d = .list ds → ds.length = 0 ∨ 12 < ds.length)) : d_p_side_by_side [.dat d] = some (.inl "NoChange", [.no]) := by
  unfold d_p_side_by_side
  generalize fLc [3] _ _ _ (fCall _ _) = E1
  generalize fLc [3] _ _ _ (fBin _ _ _) = E2
  generalize sFor _ _ _ = E3
  refine mkFn_ex (fs := [.dat d, .no, .no, .no, .no]) rfl (sCons_ex ?_)
  show sIf _ _ _ [.dat d, .no, .no, .no, .no] = _
  rcases isi_nlist hs with ⟨ds, rfl⟩ | e
  · have e := isi_lst ds
    rcases h ds rfl with h | h
    · have d1 : decide ((1 : Int) ≤ ((ds.length : Nat) : Int)) = false := decide_eq_false (by omega)
      simp only [mkFn, sCons, sSet, sPar, sUnp, sIf, sRet, sRetN, sDrop, sNil, sBrk, sCnt, bndS, bnd, rt, opt, fVar, fVal, fBin, fUn, rd1, rd2, Rv.rd, Sl.rd, fD, fzM, Rv.fz, fCons, fNil, dCons, dNil, aCons, aNil, aBoxN, aBox, fCall, resolve, boxes, bxpos, wb, fNm, rdAll, fTup, fLst, hAdd, hSub, hInt2, hMulL, hLt, hLe, hGt, hGe, hNeg, hAbs, hLen, hInt1, hMax2, hMin2, hIx, fSl, oNone, oSome, hSl, fB, toB, fAnd, fOr, fNot, fAndV, fOrV, fNotV, fChain, kName, kTup, kCons, kNil, slOk, sStore, fMt, mtGo, hApp, hFdiv, hMod, hDivmod, outs, List.length_cons, List.length_nil, List.getElem?_cons_zero, List.getElem?_cons_succ, List.getElem?_nil, List.set_cons_zero, List.set_cons_succ, List.replicate_succ, List.replicate_zero, List.cons_append, List.nil_append, Option.bind_some, Option.map_some, cond_true, cond_false, ite_true, ite_false, Nat.reduceAdd, Nat.reduceSub, Nat.reduceEqDiff, Nat.reduceLeDiff, if_true, if_false, reduceIte, atI_n0, atI_n1, atI_n2, atI_n3, ixN_10, ixN_20, ixN_21, hEq_int, hNe_int, Bool.not_true, decide_true, decide_false, hTuple, sTryK, sRaise, Bool.false_eq_true, Bool.not_false, sz0, sz1, sz2, sz3, sz4, sz5, sz6, sz7, sz8, e, d1]
    · have d1 : decide ((1 : Int) ≤ ((ds.length : Nat) : Int)) = true := decide_eq_true (by omega)
      have d2 : decide (((ds.length : Nat) : Int) ≤ 12) = false := decide_eq_false (by omega)
      simp only [mkFn, sCons, sSet, sPar, sUnp, sIf, sRet, sRetN, sDrop, sNil, sBrk, sCnt, bndS, bnd, rt, opt, fVar, fVal, fBin, fUn, rd1, rd2, Rv.rd, Sl.rd, fD, fzM, Rv.fz, fCons, fNil, dCons, dNil, aCons, aNil, aBoxN, aBox, fCall, resolve, boxes, bxpos, wb, fNm, rdAll, fTup, fLst, hAdd, hSub, hInt2, hMulL, hLt, hLe, hGt, hGe, hNeg, hAbs, hLen, hInt1, hMax2, hMin2, hIx, fSl, oNone, oSome, hSl, fB, toB, fAnd, fOr, fNot, fAndV, fOrV, fNotV, fChain, kName, kTup, kCons, kNil, slOk, sStore, fMt, mtGo, hApp, hFdiv, hMod, hDivmod, outs, List.length_cons, List.length_nil, List.getElem?_cons_zero, List.getElem?_cons_succ, List.getElem?_nil, List.set_cons_zero, List.set_cons_succ, List.replicate_succ, List.replicate_zero, List.cons_append, List.nil_append, Option.bind_some, Option.map_some, cond_true, cond_false, ite_true, ite_false, Nat.reduceAdd, Nat.reduceSub, Nat.reduceEqDiff, Nat.reduceLeDiff, if_true, if_false, reduceIte, atI_n0, atI_n1, atI_n2, atI_n3, ixN_10, ixN_20, ixN_21, hEq_int, hNe_int, Bool.not_true, decide_true, decide_false, hTuple, sTryK, sRaise, Bool.false_eq_true, Bool.not_false, sz0, sz1, sz2, sz3, sz4, sz5, sz6, sz7, sz8, e, d1, d2]
  · simp only [mkFn, sCons, sSet, sPar, sUnp, sIf, sRet, sRetN, sDrop, sNil, sBrk, sCnt, bndS, bnd, rt, opt, fVar, fVal, fBin, fUn, rd1, rd2, Rv.rd, Sl.rd, fD, fzM, Rv.fz, fCons, fNil, dCons, dNil, aCons, aNil, aBoxN, aBox, fCall, resolve, boxes, bxpos, wb, fNm, rdAll, fTup, fLst, hAdd, hSub, hInt2, hMulL, hLt, hLe, hGt, hGe, hNeg, hAbs, hLen, hInt1, hMax2, hMin2, hIx, fSl, oNone, oSome, hSl, fB, toB, fAnd, fOr, fNot, fAndV, fOrV, fNotV, fChain, kName, kTup, kCons, kNil, slOk, sStore, fMt, mtGo, hApp, hFdiv, hMod, hDivmod, outs, List.length_cons, List.length_nil, List.getElem?_cons_zero, List.getElem?_cons_succ, List.getElem?_nil, List.set_cons_zero, List.set_cons_succ, List.replicate_succ, List.replicate_zero, List.cons_append, List.nil_append, Option.bind_some, Option.map_some, cond_true, cond_false, ite_true, ite_false, Nat.reduceAdd, Nat.reduceSub, Nat.reduceEqDiff, Nat.reduceLeDiff, if_true, if_false, reduceIte, atI_n0, atI_n1, atI_n2, atI_n3, ixN_10, ixN_20, ixN_21, hEq_int, hNe_int, Bool.not_true, decide_true, decide_false, hTuple, sTryK, sRaise, Bool.false_eq_true, Bool.not_false, sz0, sz1, sz2, sz3, sz4, sz5, sz6, sz7, sz8, e]
theorem sbs_lc {xs : List D} {F : D → Bool} (h2 : xs.length ≤ 12) (hF : ∀ x ∈ xs, d_p_is_change [.dat x] = some (.inr (false, .bool (F x)), [.no])) :
    fLc [3] (fiS (fD (fVar 0))) (kName 3) tYesF (fCall d_p_is_change (aCons (fVar 3) aNil)) [.dat (.list xs), .no, .no, .no, .no] = some (.inr (.fresh (.list (xs.map fun x => .bool (F x)))), [.dat (.list xs), .no, .no, .no, .no]) := by
  have el := lcL_all (vs := [3]) (g := kName 3) (fe := fCall d_p_is_change (aCons (fVar 3) aNil)) (fun d : D => d) (fun d => .bool (F d)) [.dat (.list xs), .no, .no, .no, .no] xs (by omega) (by
    intro x hx
    have q := hF x hx
    refine ⟨[.dat (.list xs), .no, .no, .dat x, .no], [.dat (.list xs), .no, .no, .dat x, .no], rfl, ?_, rfl⟩
    generalize F x = FX at *
    simp only [mkFn, sCons, sSet, sPar, sUnp, sIf, sRet, sRetN, sDrop, sNil, sBrk, sCnt, bndS, bnd, rt, opt, fVar, fVal, fBin, fUn, rd1, rd2, Rv.rd, Sl.rd, fD, fzM, Rv.fz, fCons, fNil, dCons, dNil, aCons, aNil, aBoxN, aBox, fCall, resolve, boxes, bxpos, wb, fNm, rdAll, fTup, fLst, hAdd, hSub, hInt2, hMulL, hLt, hLe, hGt, hGe, hNeg, hAbs, hLen, hInt1, hMax2, hMin2, hIx, fSl, oNone, oSome, hSl, fB, toB, fAnd, fOr, fNot, fAndV, fOrV, fNotV, fChain, kName, kTup, kCons, kNil, slOk, sStore, fMt, mtGo, hApp, hFdiv, hMod, hDivmod, outs, List.length_cons, List.length_nil, List.getElem?_cons_zero, List.getElem?_cons_succ, List.getElem?_nil, List.set_cons_zero, List.set_cons_succ, List.replicate_succ, List.replicate_zero, List.cons_append, List.nil_append, Option.bind_some, Option.map_some, cond_true, cond_false, ite_true, ite_false, Nat.reduceAdd, Nat.reduceSub, Nat.reduceEqDiff, Nat.reduceLeDiff, if_true, if_false, reduceIte, atI_n0, atI_n1, atI_n2, atI_n3, ixN_10, ixN_20, ixN_21, hEq_int, hNe_int, Bool.not_true, decide_true, decide_false, hTuple, sTryK, sRaise, Bool.false_eq_true, Bool.not_false, sz0, sz1, sz2, sz3, sz4, sz5, sz6, sz7, sz8, q])
  rw [List.map_id'] at el
  exact fLc_of (f := fiS (fD (fVar 0))) (ds := xs) (fs1 := [.dat (.list xs), .no, .no, .no, .no]) (by simp only [fiS, asS, mkFn, sCons, sSet, sPar, sUnp, sIf, sRet, sRetN, sDrop, sNil, sBrk, sCnt, bndS, bnd, rt, opt, fVar, fVal, fBin, fUn, rd1, rd2, Rv.rd, Sl.rd, fD, fzM, Rv.fz, fCons, fNil, dCons, dNil, aCons, aNil, aBoxN, aBox, fCall, resolve, boxes, bxpos, wb, fNm, rdAll, fTup, fLst, hAdd, hSub, hInt2, hMulL, hLt, hLe, hGt, hGe, hNeg, hAbs, hLen, hInt1, hMax2, hMin2, hIx, fSl, oNone, oSome, hSl, fB, toB, fAnd, fOr, fNot, fAndV, fOrV, fNotV, fChain, kName, kTup, kCons, kNil, slOk, sStore, fMt, mtGo, hApp, hFdiv, hMod, hDivmod, outs, List.length_cons, List.length_nil, List.getElem?_cons_zero, List.getElem?_cons_succ, List.getElem?_nil, List.set_cons_zero, List.set_cons_succ, List.replicate_succ, List.replicate_zero, List.cons_append, List.nil_append, Option.bind_some, Option.map_some, cond_true, cond_false, ite_true, ite_false, Nat.reduceAdd, Nat.reduceSub, Nat.reduceEqDiff, Nat.reduceLeDiff, if_true, if_false, reduceIte, atI_n0, atI_n1, atI_n2, atI_n3, ixN_10, ixN_20, ixN_21, hEq_int, hNe_int, Bool.not_true, decide_true, decide_false, hTuple, sTryK, sRaise, Bool.false_eq_true, Bool.not_false, sz0, sz1, sz2, sz3, sz4, sz5, sz6, sz7, sz8]) el
theorem sbs_bad {xs : List D} {F : D → Bool} (h1 : 1 ≤ xs.length) (h2 : xs.length ≤ 12) (hF : ∀ x ∈ xs, d_p_is_change [.dat x] = some (.inr (false, .bool (F x)), [.no])) (hb : xs.all F = false) : d_p_side_by_side [.dat (.list xs)] = some (.inl "NoChange", [.no]) := by
  have ec := sbs_lc h2 hF
  have ha := hAll_map F xs
  rw [hb] at ha
  have e := isi_lst xs
  have d1 : decide ((1 : Int) ≤ ((xs.length : Nat) : Int)) = true := decide_eq_true (by omega)
  have d2 : decide (((xs.length : Nat) : Int) ≤ 12) = true := decide_eq_true (by omega)
  unfold d_p_side_by_side
  generalize fLc [3] _ _ _ (fCall _ _) = E1 at ec ⊢
  generalize fLc [3] _ _ _ (fBin _ _ _) = E2
  generalize sFor _ _ _ = E3
  generalize xs.map (fun x => PyData.bool (F x)) = BX at *
  refine mkFn_ex (fs := [.dat (.list xs), .no, .no, .no, .no]) rfl ?_
  show sCons _ _ [.dat (.list xs), .no, .no, .no, .no] = _
  rw [sCons_nx (fs1 := [.dat (.list xs), .no, .no, .no, .no]) (by simp only [mkFn, sCons, sSet, sPar, sUnp, sIf, sRet, sRetN, sDrop, sNil, sBrk, sCnt, bndS, bnd, rt, opt, fVar, fVal, fBin, fUn, rd1, rd2, Rv.rd, Sl.rd, fD, fzM, Rv.fz, fCons, fNil, dCons, dNil, aCons, aNil, aBoxN, aBox, fCall, resolve, boxes, bxpos, wb, fNm, rdAll, fTup, fLst, hAdd, hSub, hInt2, hMulL, hLt, hLe, hGt, hGe, hNeg, hAbs, hLen, hInt1, hMax2, hMin2, hIx, fSl, oNone, oSome, hSl, fB, toB, fAnd, fOr, fNot, fAndV, fOrV, fNotV, fChain, kName, kTup, kCons, kNil, slOk, sStore, fMt, mtGo, hApp, hFdiv, hMod, hDivmod, outs, List.length_cons, List.length_nil, List.getElem?_cons_zero, List.getElem?_cons_succ, List.getElem?_nil, List.set_cons_zero, List.set_cons_succ, List.replicate_succ, List.replicate_zero, List.cons_append, List.nil_append, Option.bind_some, Option.map_some, cond_true, cond_false, ite_true, ite_false, Nat.reduceAdd, Nat.reduceSub, Nat.reduceEqDiff, Nat.reduceLeDiff, if_true, if_false, reduceIte, atI_n0, atI_n1, atI_n2, atI_n3, ixN_10, ixN_20, ixN_21, hEq_int, hNe_int, Bool.not_true, decide_true, decide_false, hTuple, sTryK, sRaise, Bool.false_eq_true, Bool.not_false, sz0, sz1, sz2, sz3, sz4, sz5, sz6, sz7, sz8, e, d1, d2])]
  exact sCons_ex (by simp only [mkFn, sCons, sSet, sPar, sUnp, sIf, sRet, sRetN, sDrop, sNil, sBrk, sCnt, bndS, bnd, rt, opt, fVar, fVal, fBin, fUn, rd1, rd2, Rv.rd, Sl.rd, fD, fzM, Rv.fz, fCons, fNil, dCons, dNil, aCons, aNil, aBoxN, aBox, fCall, resolve, boxes, bxpos, wb, fNm, rdAll, fTup, fLst, hAdd, hSub, hInt2, hMulL, hLt, hLe, hGt, hGe, hNeg, hAbs, hLen, hInt1, hMax2, hMin2, hIx, fSl, oNone, oSome, hSl, fB, toB, fAnd, fOr, fNot, fAndV, fOrV, fNotV, fChain, kName, kTup, kCons, kNil, slOk, sStore, fMt, mtGo, hApp, hFdiv, hMod, hDivmod, outs, List.length_cons, List.length_nil, List.getElem?_cons_zero, List.getElem?_cons_succ, List.getElem?_nil, List.set_cons_zero, List.set_cons_succ, List.replicate_succ, List.replicate_zero, List.cons_append, List.nil_append, Option.bind_some, Option.map_some, cond_true, cond_false, ite_true, ite_false, Nat.reduceAdd, Nat.reduceSub, Nat.reduceEqDiff, Nat.reduceLeDiff, if_true, if_false, reduceIte, atI_n0, atI_n1, atI_n2, atI_n3, ixN_10, ixN_20, ixN_21, hEq_int, hNe_int, Bool.not_true, decide_true, decide_false, hTuple, sTryK, sRaise, Bool.false_eq_true, Bool.not_false, sz0, sz1, sz2, sz3, sz4, sz5, sz6, sz7, sz8, ec, ha])
theorem sbs_good {c : Ch} {cs : List Ch} (hc : ∀ x ∈ c :: cs, ChOk x) (h2 : (c :: cs).length ≤ 12) :
    d_p_side_by_side [.dat (.list ((c :: cs).map chC))] = if ((c :: cs).any fun x => !decide (x.1 = c.1)) = true then some (.inl "Unlike", [.no]) else if 12 < ((c :: cs).foldl catC ([], [])).1.length then some (.inl "TooMany", [.no]) else some (.inr (false, chD c.1 ((c :: cs).foldl catC ([], [])).1 ((c :: cs).foldl catC ([], [])).2), [.no]) := by
  have ec := sbs_lc (xs := (c :: cs).map chC) (F := fun _ => true) (by rw [List.length_map]; exact h2) (fun x hx => by
    obtain ⟨y, hy, rfl⟩ := List.mem_map.mp hx
    exact (hc y hy).is)
  have ha := hAll_map (fun _ => true) ((c :: cs).map chC)
  rw [List.all_eq_true.mpr fun _ _ => rfl] at ha
  have e := isi_lst ((c :: cs).map chC)
  have h1 : 1 ≤ ((c :: cs).map chC).length := by rw [List.length_map, List.length_cons]; omega
  have h2' : ((c :: cs).map chC).length ≤ 12 := by rw [List.length_map]; exact h2
  have d1 : decide ((1 : Int) ≤ ((((c :: cs).map chC).length : Nat) : Int)) = true := decide_eq_true (by omega)
  have d2 : decide (((((c :: cs).map chC).length : Nat) : Int) ≤ 12) = true := decide_eq_true (by omega)
  have i0 : atI ((c :: cs).map chC) 0 = some (.tuple [.int c.1, .tuple c.2.1, .tuple (c.2.2.map PyData.int)]) := by rw [show (0 : Int) = ((0 : Nat) : Int) from rfl, atI_natE]; rfl
  have el := lcL_all (vs := [3]) (g := kName 3) (fe := fBin hNe (fBin hIx (fVar 3) (fVal (.int 0))) (fBin hIx (fBin hIx (fVar 0) (fVal (.int 0))) (fVal (.int 0)))) chC (fun x : Ch => .bool (!decide (x.1 = c.1))) [.dat (.list ((c :: cs).map chC)), .no, .no, .no, .no] (c :: cs) (by omega) (by
    intro x hx
    refine ⟨[.dat (.list ((c :: cs).map chC)), .no, .no, .dat (chC x), .no], [.dat (.list ((c :: cs).map chC)), .no, .no, .dat (chC x), .no], rfl, ?_, rfl⟩
    generalize (c :: cs).map chC = CL at *
    generalize c.2.2.map PyData.int = OO at *
    show fD _ [_, _, _, .dat (.tuple [.int x.1, .tuple x.2.1, .tuple (x.2.2.map PyData.int)]), _] = some (_, [_, _, _, .dat (.tuple [.int x.1, .tuple x.2.1, .tuple (x.2.2.map PyData.int)]), _])
    generalize x.2.2.map PyData.int = XO
    simp only [mkFn, sCons, sSet, sPar, sUnp, sIf, sRet, sRetN, sDrop, sNil, sBrk, sCnt, bndS, bnd, rt, opt, fVar, fVal, fBin, fUn, rd1, rd2, Rv.rd, Sl.rd, fD, fzM, Rv.fz, fCons, fNil, dCons, dNil, aCons, aNil, aBoxN, aBox, fCall, resolve, boxes, bxpos, wb, fNm, rdAll, fTup, fLst, hAdd, hSub, hInt2, hMulL, hLt, hLe, hGt, hGe, hNeg, hAbs, hLen, hInt1, hMax2, hMin2, hIx, fSl, oNone, oSome, hSl, fB, toB, fAnd, fOr, fNot, fAndV, fOrV, fNotV, fChain, kName, kTup, kCons, kNil, slOk, sStore, fMt, mtGo, hApp, hFdiv, hMod, hDivmod, outs, List.length_cons, List.length_nil, List.getElem?_cons_zero, List.getElem?_cons_succ, List.getElem?_nil, List.set_cons_zero, List.set_cons_succ, List.replicate_succ, List.replicate_zero, List.cons_append, List.nil_append, Option.bind_some, Option.map_some, cond_true, cond_false, ite_true, ite_false, Nat.reduceAdd, Nat.reduceSub, Nat.reduceEqDiff, Nat.reduceLeDiff, if_true, if_false, reduceIte, atI_n0, atI_n1, atI_n2, atI_n3, ixN_10, ixN_20, ixN_21, hEq_int, hNe_int, Bool.not_true, decide_true, decide_false, hTuple, sTryK, sRaise, Bool.false_eq_true, Bool.not_false, sz0, sz1, sz2, sz3, sz4, sz5, sz6, sz7, sz8, i0])
  have ec2 := fLc_of (f := fiS (fD (fVar 0))) (ds := (c :: cs).map chC) (fs := [.dat (.list ((c :: cs).map chC)), .no, .no, .no, .no]) (fs1 := [.dat (.list ((c :: cs).map chC)), .no, .no, .no, .no]) (by
    generalize (c :: cs).map chC = CL
    simp only [fiS, asS, mkFn, sCons, sSet, sPar, sUnp, sIf, sRet, sRetN, sDrop, sNil, sBrk, sCnt, bndS, bnd, rt, opt, fVar, fVal, fBin, fUn, rd1, rd2, Rv.rd, Sl.rd, fD, fzM, Rv.fz, fCons, fNil, dCons, dNil, aCons, aNil, aBoxN, aBox, fCall, resolve, boxes, bxpos, wb, fNm, rdAll, fTup, fLst, hAdd, hSub, hInt2, hMulL, hLt, hLe, hGt, hGe, hNeg, hAbs, hLen, hInt1, hMax2, hMin2, hIx, fSl, oNone, oSome, hSl, fB, toB, fAnd, fOr, fNot, fAndV, fOrV, fNotV, fChain, kName, kTup, kCons, kNil, slOk, sStore, fMt, mtGo, hApp, hFdiv, hMod, hDivmod, outs, List.length_cons, List.length_nil, List.getElem?_cons_zero, List.getElem?_cons_succ, List.getElem?_nil, List.set_cons_zero, List.set_cons_succ, List.replicate_succ, List.replicate_zero, List.cons_append, List.nil_append, Option.bind_some, Option.map_some, cond_true, cond_false, ite_true, ite_false, Nat.reduceAdd, Nat.reduceSub, Nat.reduceEqDiff, Nat.reduceLeDiff, if_true, if_false, reduceIte, atI_n0, atI_n1, atI_n2, atI_n3, ixN_10, ixN_20, ixN_21, hEq_int, hNe_int, Bool.not_true, decide_true, decide_false, hTuple, sTryK, sRaise, Bool.false_eq_true, Bool.not_false, sz0, sz1, sz2, sz3, sz4, sz5, sz6, sz7, sz8]) el
  have ha2 := hAny_map (fun x : Ch => !decide (x.1 = c.1)) (c :: cs)
  obtain ⟨s3, e3⟩ := sb_loop (.dat (.list ((c :: cs).map chC))) (c :: cs) [] [] .no hc (by rw [List.length_nil]; omega) rfl
  have er : fiS (fD (fVar 0)) [.dat (.list ((c :: cs).map chC)), .dat (.tuple []), .dat (.tuple []), .no, .no] = some (.inr ((c :: cs).map chC), [.dat (.list ((c :: cs).map chC)), .dat (.tuple []), .dat (.tuple []), .no, .no]) := by
    generalize (c :: cs).map chC = CL
    simp only [fiS, asS, mkFn, sCons, sSet, sPar, sUnp, sIf, sRet, sRetN, sDrop, sNil, sBrk, sCnt, bndS, bnd, rt, opt, fVar, fVal, fBin, fUn, rd1, rd2, Rv.rd, Sl.rd, fD, fzM, Rv.fz, fCons, fNil, dCons, dNil, aCons, aNil, aBoxN, aBox, fCall, resolve, boxes, bxpos, wb, fNm, rdAll, fTup, fLst, hAdd, hSub, hInt2, hMulL, hLt, hLe, hGt, hGe, hNeg, hAbs, hLen, hInt1, hMax2, hMin2, hIx, fSl, oNone, oSome, hSl, fB, toB, fAnd, fOr, fNot, fAndV, fOrV, fNotV, fChain, kName, kTup, kCons, kNil, slOk, sStore, fMt, mtGo, hApp, hFdiv, hMod, hDivmod, outs, List.length_cons, List.length_nil, List.getElem?_cons_zero, List.getElem?_cons_succ, List.getElem?_nil, List.set_cons_zero, List.set_cons_succ, List.replicate_succ, List.replicate_zero, List.cons_append, List.nil_append, Option.bind_some, Option.map_some, cond_true, cond_false, ite_true, ite_false, Nat.reduceAdd, Nat.reduceSub, Nat.reduceEqDiff, Nat.reduceLeDiff, if_true, if_false, reduceIte, atI_n0, atI_n1, atI_n2, atI_n3, ixN_10, ixN_20, ixN_21, hEq_int, hNe_int, Bool.not_true, decide_true, decide_false, hTuple, sTryK, sRaise, Bool.false_eq_true, Bool.not_false, sz0, sz1, sz2, sz3, sz4, sz5, sz6, sz7, sz8]
  rw [List.map_nil] at e3
  generalize (c :: cs).map (fun x : Ch => PyData.bool (!decide (x.1 = c.1))) = B2 at *
  generalize hAN : ((c :: cs).any fun x : Ch => !decide (x.1 = c.1)) = AN at *
  generalize ((c :: cs).map chC).map (fun x => PyData.bool true) = B1 at *
  generalize (c :: cs).foldl catC ([], []) = R at *
  rw [show chD c.1 R.1 R.2 = .tuple [.int c.1, .tuple R.1, .tuple (R.2.map PyData.int)] from rfl]
  generalize (c :: cs).map chC = CL at *
  generalize R.2.map PyData.int = RO at *
  generalize c.2.2.map PyData.int = OO at *
  unfold d_p_side_by_side
  generalize fLc [3] _ _ _ (fCall _ _) = E1 at ec ⊢
  generalize fLc [3] _ _ _ (fBin _ _ _) = E2 at ec2 ⊢
  have s1 : sIf (fOr (fNot (fB (fUn (hIsi "list") (fVar 0)))) (fNot (fB (fChain hLe hLe (fVal (.int 1)) (fNm hLen (fCons (fVar 0) fNil)) (fVal g_MOST_PIECES_parts))))) (sRaise "NoChange") sNil [.dat (.list CL), .no, .no, .no, .no] = some (.nx, [.dat (.list CL), .no, .no, .no, .no]) := by simp only [mkFn, sCons, sSet, sPar, sUnp, sIf, sRet, sRetN, sDrop, sNil, sBrk, sCnt, bndS, bnd, rt, opt, fVar, fVal, fBin, fUn, rd1, rd2, Rv.rd, Sl.rd, fD, fzM, Rv.fz, fCons, fNil, dCons, dNil, aCons, aNil, aBoxN, aBox, fCall, resolve, boxes, bxpos, wb, fNm, rdAll, fTup, fLst, hAdd, hSub, hInt2, hMulL, hLt, hLe, hGt, hGe, hNeg, hAbs, hLen, hInt1, hMax2, hMin2, hIx, fSl, oNone, oSome, hSl, fB, toB, fAnd, fOr, fNot, fAndV, fOrV, fNotV, fChain, kName, kTup, kCons, kNil, slOk, sStore, fMt, mtGo, hApp, hFdiv, hMod, hDivmod, outs, List.length_cons, List.length_nil, List.getElem?_cons_zero, List.getElem?_cons_succ, List.getElem?_nil, List.set_cons_zero, List.set_cons_succ, List.replicate_succ, List.replicate_zero, List.cons_append, List.nil_append, Option.bind_some, Option.map_some, cond_true, cond_false, ite_true, ite_false, Nat.reduceAdd, Nat.reduceSub, Nat.reduceEqDiff, Nat.reduceLeDiff, if_true, if_false, reduceIte, atI_n0, atI_n1, atI_n2, atI_n3, ixN_10, ixN_20, ixN_21, hEq_int, hNe_int, Bool.not_true, decide_true, decide_false, hTuple, sTryK, sRaise, Bool.false_eq_true, Bool.not_false, sz0, sz1, sz2, sz3, sz4, sz5, sz6, sz7, sz8, e, d1, d2]
  have s2 : sIf (fNot (fB (fNm hAll (fCons E1 fNil)))) (sRaise "NoChange") sNil [.dat (.list CL), .no, .no, .no, .no] = some (.nx, [.dat (.list CL), .no, .no, .no, .no]) := by simp only [mkFn, sCons, sSet, sPar, sUnp, sIf, sRet, sRetN, sDrop, sNil, sBrk, sCnt, bndS, bnd, rt, opt, fVar, fVal, fBin, fUn, rd1, rd2, Rv.rd, Sl.rd, fD, fzM, Rv.fz, fCons, fNil, dCons, dNil, aCons, aNil, aBoxN, aBox, fCall, resolve, boxes, bxpos, wb, fNm, rdAll, fTup, fLst, hAdd, hSub, hInt2, hMulL, hLt, hLe, hGt, hGe, hNeg, hAbs, hLen, hInt1, hMax2, hMin2, hIx, fSl, oNone, oSome, hSl, fB, toB, fAnd, fOr, fNot, fAndV, fOrV, fNotV, fChain, kName, kTup, kCons, kNil, slOk, sStore, fMt, mtGo, hApp, hFdiv, hMod, hDivmod, outs, List.length_cons, List.length_nil, List.getElem?_cons_zero, List.getElem?_cons_succ, List.getElem?_nil, List.set_cons_zero, List.set_cons_succ, List.replicate_succ, List.replicate_zero, List.cons_append, List.nil_append, Option.bind_some, Option.map_some, cond_true, cond_false, ite_true, ite_false, Nat.reduceAdd, Nat.reduceSub, Nat.reduceEqDiff, Nat.reduceLeDiff, if_true, if_false, reduceIte, atI_n0, atI_n1, atI_n2, atI_n3, ixN_10, ixN_20, ixN_21, hEq_int, hNe_int, Bool.not_true, decide_true, decide_false, hTuple, sTryK, sRaise, Bool.false_eq_true, Bool.not_false, sz0, sz1, sz2, sz3, sz4, sz5, sz6, sz7, sz8, ec, ha]
  cases AN with
  | true =>
    rw [if_pos rfl]
    refine mkFn_ex (fs := [.dat (.list CL), .no, .no, .no, .no]) rfl ?_
    show sCons _ _ [.dat (.list CL), .no, .no, .no, .no] = _
    rw [sCons_nx s1, sCons_nx s2]
    exact sCons_ex (by simp only [mkFn, sCons, sSet, sPar, sUnp, sIf, sRet, sRetN, sDrop, sNil, sBrk, sCnt, bndS, bnd, rt, opt, fVar, fVal, fBin, fUn, rd1, rd2, Rv.rd, Sl.rd, fD, fzM, Rv.fz, fCons, fNil, dCons, dNil, aCons, aNil, aBoxN, aBox, fCall, resolve, boxes, bxpos, wb, fNm, rdAll, fTup, fLst, hAdd, hSub, hInt2, hMulL, hLt, hLe, hGt, hGe, hNeg, hAbs, hLen, hInt1, hMax2, hMin2, hIx, fSl, oNone, oSome, hSl, fB, toB, fAnd, fOr, fNot, fAndV, fOrV, fNotV, fChain, kName, kTup, kCons, kNil, slOk, sStore, fMt, mtGo, hApp, hFdiv, hMod, hDivmod, outs, List.length_cons, List.length_nil, List.getElem?_cons_zero, List.getElem?_cons_succ, List.getElem?_nil, List.set_cons_zero, List.set_cons_succ, List.replicate_succ, List.replicate_zero, List.cons_append, List.nil_append, Option.bind_some, Option.map_some, cond_true, cond_false, ite_true, ite_false, Nat.reduceAdd, Nat.reduceSub, Nat.reduceEqDiff, Nat.reduceLeDiff, if_true, if_false, reduceIte, atI_n0, atI_n1, atI_n2, atI_n3, ixN_10, ixN_20, ixN_21, hEq_int, hNe_int, Bool.not_true, decide_true, decide_false, hTuple, sTryK, sRaise, Bool.false_eq_true, Bool.not_false, sz0, sz1, sz2, sz3, sz4, sz5, sz6, sz7, sz8, ec2, ha2])
  | false =>
    rw [if_neg (by decide)]
    have s3' : sIf (fB (fNm hAny (fCons E2 fNil))) (sRaise "Unlike") sNil [.dat (.list CL), .no, .no, .no, .no] = some (.nx, [.dat (.list CL), .no, .no, .no, .no]) := by simp only [mkFn, sCons, sSet, sPar, sUnp, sIf, sRet, sRetN, sDrop, sNil, sBrk, sCnt, bndS, bnd, rt, opt, fVar, fVal, fBin, fUn, rd1, rd2, Rv.rd, Sl.rd, fD, fzM, Rv.fz, fCons, fNil, dCons, dNil, aCons, aNil, aBoxN, aBox, fCall, resolve, boxes, bxpos, wb, fNm, rdAll, fTup, fLst, hAdd, hSub, hInt2, hMulL, hLt, hLe, hGt, hGe, hNeg, hAbs, hLen, hInt1, hMax2, hMin2, hIx, fSl, oNone, oSome, hSl, fB, toB, fAnd, fOr, fNot, fAndV, fOrV, fNotV, fChain, kName, kTup, kCons, kNil, slOk, sStore, fMt, mtGo, hApp, hFdiv, hMod, hDivmod, outs, List.length_cons, List.length_nil, List.getElem?_cons_zero, List.getElem?_cons_succ, List.getElem?_nil, List.set_cons_zero, List.set_cons_succ, List.replicate_succ, List.replicate_zero, List.cons_append, List.nil_append, Option.bind_some, Option.map_some, cond_true, cond_false, ite_true, ite_false, Nat.reduceAdd, Nat.reduceSub, Nat.reduceEqDiff, Nat.reduceLeDiff, if_true, if_false, reduceIte, atI_n0, atI_n1, atI_n2, atI_n3, ixN_10, ixN_20, ixN_21, hEq_int, hNe_int, Bool.not_true, decide_true, decide_false, hTuple, sTryK, sRaise, Bool.false_eq_true, Bool.not_false, sz0, sz1, sz2, sz3, sz4, sz5, sz6, sz7, sz8, ec2, ha2]
    by_cases hz : 12 < R.1.length
    · rw [if_pos hz]
      have dz : decide ((12 : Int) < ((R.1.length : Nat) : Int)) = true := decide_eq_true (by omega)
      refine mkFn_ex (fs := [.dat (.list CL), .dat (.tuple R.1), .dat (.tuple RO), s3, .no]) rfl ?_
      show sCons _ _ [.dat (.list CL), .no, .no, .no, .no] = _
      rw [sCons_nx s1, sCons_nx s2, sCons_nx s3']
      rw [sCons_nx (fs1 := [.dat (.list CL), .dat (.tuple []), .no, .no, .no]) (by simp only [mkFn, sCons, sSet, sPar, sUnp, sIf, sRet, sRetN, sDrop, sNil, sBrk, sCnt, bndS, bnd, rt, opt, fVar, fVal, fBin, fUn, rd1, rd2, Rv.rd, Sl.rd, fD, fzM, Rv.fz, fCons, fNil, dCons, dNil, aCons, aNil, aBoxN, aBox, fCall, resolve, boxes, bxpos, wb, fNm, rdAll, fTup, fLst, hAdd, hSub, hInt2, hMulL, hLt, hLe, hGt, hGe, hNeg, hAbs, hLen, hInt1, hMax2, hMin2, hIx, fSl, oNone, oSome, hSl, fB, toB, fAnd, fOr, fNot, fAndV, fOrV, fNotV, fChain, kName, kTup, kCons, kNil, slOk, sStore, fMt, mtGo, hApp, hFdiv, hMod, hDivmod, outs, List.length_cons, List.length_nil, List.getElem?_cons_zero, List.getElem?_cons_succ, List.getElem?_nil, List.set_cons_zero, List.set_cons_succ, List.replicate_succ, List.replicate_zero, List.cons_append, List.nil_append, Option.bind_some, Option.map_some, cond_true, cond_false, ite_true, ite_false, Nat.reduceAdd, Nat.reduceSub, Nat.reduceEqDiff, Nat.reduceLeDiff, if_true, if_false, reduceIte, atI_n0, atI_n1, atI_n2, atI_n3, ixN_10, ixN_20, ixN_21, hEq_int, hNe_int, Bool.not_true, decide_true, decide_false, hTuple, sTryK, sRaise, Bool.false_eq_true, Bool.not_false, sz0, sz1, sz2, sz3, sz4, sz5, sz6, sz7, sz8])]
      rw [sCons_nx (fs1 := [.dat (.list CL), .dat (.tuple []), .dat (.tuple []), .no, .no]) (by simp only [mkFn, sCons, sSet, sPar, sUnp, sIf, sRet, sRetN, sDrop, sNil, sBrk, sCnt, bndS, bnd, rt, opt, fVar, fVal, fBin, fUn, rd1, rd2, Rv.rd, Sl.rd, fD, fzM, Rv.fz, fCons, fNil, dCons, dNil, aCons, aNil, aBoxN, aBox, fCall, resolve, boxes, bxpos, wb, fNm, rdAll, fTup, fLst, hAdd, hSub, hInt2, hMulL, hLt, hLe, hGt, hGe, hNeg, hAbs, hLen, hInt1, hMax2, hMin2, hIx, fSl, oNone, oSome, hSl, fB, toB, fAnd, fOr, fNot, fAndV, fOrV, fNotV, fChain, kName, kTup, kCons, kNil, slOk, sStore, fMt, mtGo, hApp, hFdiv, hMod, hDivmod, outs, List.length_cons, List.length_nil, List.getElem?_cons_zero, List.getElem?_cons_succ, List.getElem?_nil, List.set_cons_zero, List.set_cons_succ, List.replicate_succ, List.replicate_zero, List.cons_append, List.nil_append, Option.bind_some, Option.map_some, cond_true, cond_false, ite_true, ite_false, Nat.reduceAdd, Nat.reduceSub, Nat.reduceEqDiff, Nat.reduceLeDiff, if_true, if_false, reduceIte, atI_n0, atI_n1, atI_n2, atI_n3, ixN_10, ixN_20, ixN_21, hEq_int, hNe_int, Bool.not_true, decide_true, decide_false, hTuple, sTryK, sRaise, Bool.false_eq_true, Bool.not_false, sz0, sz1, sz2, sz3, sz4, sz5, sz6, sz7, sz8])]
      rw [sCons_nx (fs1 := [.dat (.list CL), .dat (.tuple R.1), .dat (.tuple RO), s3, .no]) (by rw [sFor_of er]; exact e3)]
      exact sCons_ex (by simp only [mkFn, sCons, sSet, sPar, sUnp, sIf, sRet, sRetN, sDrop, sNil, sBrk, sCnt, bndS, bnd, rt, opt, fVar, fVal, fBin, fUn, rd1, rd2, Rv.rd, Sl.rd, fD, fzM, Rv.fz, fCons, fNil, dCons, dNil, aCons, aNil, aBoxN, aBox, fCall, resolve, boxes, bxpos, wb, fNm, rdAll, fTup, fLst, hAdd, hSub, hInt2, hMulL, hLt, hLe, hGt, hGe, hNeg, hAbs, hLen, hInt1, hMax2, hMin2, hIx, fSl, oNone, oSome, hSl, fB, toB, fAnd, fOr, fNot, fAndV, fOrV, fNotV, fChain, kName, kTup, kCons, kNil, slOk, sStore, fMt, mtGo, hApp, hFdiv, hMod, hDivmod, outs, List.length_cons, List.length_nil, List.getElem?_cons_zero, List.getElem?_cons_succ, List.getElem?_nil, List.set_cons_zero, List.set_cons_succ, List.replicate_succ, List.replicate_zero, List.cons_append, List.nil_append, Option.bind_some, Option.map_some, cond_true, cond_false, ite_true, ite_false, Nat.reduceAdd, Nat.reduceSub, Nat.reduceEqDiff, Nat.reduceLeDiff, if_true, if_false, reduceIte, atI_n0, atI_n1, atI_n2, atI_n3, ixN_10, ixN_20, ixN_21, hEq_int, hNe_int, Bool.not_true, decide_true, decide_false, hTuple, sTryK, sRaise, Bool.false_eq_true, Bool.not_false, sz0, sz1, sz2, sz3, sz4, sz5, sz6, sz7, sz8, dz])
    · rw [if_neg hz]
      have dz : decide ((12 : Int) < ((R.1.length : Nat) : Int)) = false := decide_eq_false (by omega)
      refine mkFn_ret (fs := [.dat (.list CL), .dat (.tuple R.1), .dat (.tuple RO), s3, .no]) rfl ?_
      show sCons _ _ [.dat (.list CL), .no, .no, .no, .no] = _
      rw [sCons_nx s1, sCons_nx s2, sCons_nx s3']
      rw [sCons_nx (fs1 := [.dat (.list CL), .dat (.tuple []), .no, .no, .no]) (by simp only [mkFn, sCons, sSet, sPar, sUnp, sIf, sRet, sRetN, sDrop, sNil, sBrk, sCnt, bndS, bnd, rt, opt, fVar, fVal, fBin, fUn, rd1, rd2, Rv.rd, Sl.rd, fD, fzM, Rv.fz, fCons, fNil, dCons, dNil, aCons, aNil, aBoxN, aBox, fCall, resolve, boxes, bxpos, wb, fNm, rdAll, fTup, fLst, hAdd, hSub, hInt2, hMulL, hLt, hLe, hGt, hGe, hNeg, hAbs, hLen, hInt1, hMax2, hMin2, hIx, fSl, oNone, oSome, hSl, fB, toB, fAnd, fOr, fNot, fAndV, fOrV, fNotV, fChain, kName, kTup, kCons, kNil, slOk, sStore, fMt, mtGo, hApp, hFdiv, hMod, hDivmod, outs, List.length_cons, List.length_nil, List.getElem?_cons_zero, List.getElem?_cons_succ, List.getElem?_nil, List.set_cons_zero, List.set_cons_succ, List.replicate_succ, List.replicate_zero, List.cons_append, List.nil_append, Option.bind_some, Option.map_some, cond_true, cond_false, ite_true, ite_false, Nat.reduceAdd, Nat.reduceSub, Nat.reduceEqDiff, Nat.reduceLeDiff, if_true, if_false, reduceIte, atI_n0, atI_n1, atI_n2, atI_n3, ixN_10, ixN_20, ixN_21, hEq_int, hNe_int, Bool.not_true, decide_true, decide_false, hTuple, sTryK, sRaise, Bool.false_eq_true, Bool.not_false, sz0, sz1, sz2, sz3, sz4, sz5, sz6, sz7, sz8])]
      rw [sCons_nx (fs1 := [.dat (.list CL), .dat (.tuple []), .dat (.tuple []), .no, .no]) (by simp only [mkFn, sCons, sSet, sPar, sUnp, sIf, sRet, sRetN, sDrop, sNil, sBrk, sCnt, bndS, bnd, rt, opt, fVar, fVal, fBin, fUn, rd1, rd2, Rv.rd, Sl.rd, fD, fzM, Rv.fz, fCons, fNil, dCons, dNil, aCons, aNil, aBoxN, aBox, fCall, resolve, boxes, bxpos, wb, fNm, rdAll, fTup, fLst, hAdd, hSub, hInt2, hMulL, hLt, hLe, hGt, hGe, hNeg, hAbs, hLen, hInt1, hMax2, hMin2, hIx, fSl, oNone, oSome, hSl, fB, toB, fAnd, fOr, fNot, fAndV, fOrV, fNotV, fChain, kName, kTup, kCons, kNil, slOk, sStore, fMt, mtGo, hApp, hFdiv, hMod, hDivmod, outs, List.length_cons, List.length_nil, List.getElem?_cons_zero, List.getElem?_cons_succ, List.getElem?_nil, List.set_cons_zero, List.set_cons_succ, List.replicate_succ, List.replicate_zero, List.cons_append, List.nil_append, Option.bind_some, Option.map_some, cond_true, cond_false, ite_true, ite_false, Nat.reduceAdd, Nat.reduceSub, Nat.reduceEqDiff, Nat.reduceLeDiff, if_true, if_false, reduceIte, atI_n0, atI_n1, atI_n2, atI_n3, ixN_10, ixN_20, ixN_21, hEq_int, hNe_int, Bool.not_true, decide_true, decide_false, hTuple, sTryK, sRaise, Bool.false_eq_true, Bool.not_false, sz0, sz1, sz2, sz3, sz4, sz5, sz6, sz7, sz8])]
      rw [sCons_nx (fs1 := [.dat (.list CL), .dat (.tuple R.1), .dat (.tuple RO), s3, .no]) (by rw [sFor_of er]; exact e3)]
      rw [sCons_nx (fs1 := [.dat (.list CL), .dat (.tuple R.1), .dat (.tuple RO), s3, .no]) (by simp only [mkFn, sCons, sSet, sPar, sUnp, sIf, sRet, sRetN, sDrop, sNil, sBrk, sCnt, bndS, bnd, rt, opt, fVar, fVal, fBin, fUn, rd1, rd2, Rv.rd, Sl.rd, fD, fzM, Rv.fz, fCons, fNil, dCons, dNil, aCons, aNil, aBoxN, aBox, fCall, resolve, boxes, bxpos, wb, fNm, rdAll, fTup, fLst, hAdd, hSub, hInt2, hMulL, hLt, hLe, hGt, hGe, hNeg, hAbs, hLen, hInt1, hMax2, hMin2, hIx, fSl, oNone, oSome, hSl, fB, toB, fAnd, fOr, fNot, fAndV, fOrV, fNotV, fChain, kName, kTup, kCons, kNil, slOk, sStore, fMt, mtGo, hApp, hFdiv, hMod, hDivmod, outs, List.length_cons, List.length_nil, List.getElem?_cons_zero, List.getElem?_cons_succ, List.getElem?_nil, List.set_cons_zero, List.set_cons_succ, List.replicate_succ, List.replicate_zero, List.cons_append, List.nil_append, Option.bind_some, Option.map_some, cond_true, cond_false, ite_true, ite_false, Nat.reduceAdd, Nat.reduceSub, Nat.reduceEqDiff, Nat.reduceLeDiff, if_true, if_false, reduceIte, atI_n0, atI_n1, atI_n2, atI_n3, ixN_10, ixN_20, ixN_21, hEq_int, hNe_int, Bool.not_true, decide_true, decide_false, hTuple, sTryK, sRaise, Bool.false_eq_true, Bool.not_false, sz0, sz1, sz2, sz3, sz4, sz5, sz6, sz7, sz8, dz])]
      simp only [mkFn, sCons, sSet, sPar, sUnp, sIf, sRet, sRetN, sDrop, sNil, sBrk, sCnt, bndS, bnd, rt, opt, fVar, fVal, fBin, fUn, rd1, rd2, Rv.rd, Sl.rd, fD, fzM, Rv.fz, fCons, fNil, dCons, dNil, aCons, aNil, aBoxN, aBox, fCall, resolve, boxes, bxpos, wb, fNm, rdAll, fTup, fLst, hAdd, hSub, hInt2, hMulL, hLt, hLe, hGt, hGe, hNeg, hAbs, hLen, hInt1, hMax2, hMin2, hIx, fSl, oNone, oSome, hSl, fB, toB, fAnd, fOr, fNot, fAndV, fOrV, fNotV, fChain, kName, kTup, kCons, kNil, slOk, sStore, fMt, mtGo, hApp, hFdiv, hMod, hDivmod, outs, List.length_cons, List.length_nil, List.getElem?_cons_zero, List.getElem?_cons_succ, List.getElem?_nil, List.set_cons_zero, List.set_cons_succ, List.replicate_succ, List.replicate_zero, List.cons_append, List.nil_append, Option.bind_some, Option.map_some, cond_true, cond_false, ite_true, ite_false, Nat.reduceAdd, Nat.reduceSub, Nat.reduceEqDiff, Nat.reduceLeDiff, if_true, if_false, reduceIte, atI_n0, atI_n1, atI_n2, atI_n3, ixN_10, ixN_20, ixN_21, hEq_int, hNe_int, Bool.not_true, decide_true, decide_false, hTuple, sTryK, sRaise, Bool.false_eq_true, Bool.not_false, sz0, sz1, sz2, sz3, sz4, sz5, sz6, sz7, sz8, i0]
/-! ### what is said of things -/
theorem kd_c : kd_kind "NoChange" = some (Str.ofString "change") := by decide +kernel
theorem kd_u : kd_kind "Unlike" = some (Str.ofString "unlike") := by decide +kernel
theorem kd_m : kd_kind "TooMany" = some (Str.ofString "many") := by decide +kernel
theorem said_ex {d : D} {c : Cls} {w : Str} (h : d_p_side_by_side [.dat d] = some (.inl c, [.no])) (k : kd_kind c = some w) : d_said [.dat d] = some (.inr (false, .str w), [.no]) := by
  simp only [d_said, mkFn, sCons, sSet, sPar, sUnp, sIf, sRet, sRetN, sDrop, sNil, sBrk, sCnt, bndS, bnd, rt, opt, fVar, fVal, fBin, fUn, rd1, rd2, Rv.rd, Sl.rd, fD, fzM, Rv.fz, fCons, fNil, dCons, dNil, aCons, aNil, aBoxN, aBox, fCall, resolve, boxes, bxpos, wb, fNm, rdAll, fTup, fLst, hAdd, hSub, hInt2, hMulL, hLt, hLe, hGt, hGe, hNeg, hAbs, hLen, hInt1, hMax2, hMin2, hIx, fSl, oNone, oSome, hSl, fB, toB, fAnd, fOr, fNot, fAndV, fOrV, fNotV, fChain, kName, kTup, kCons, kNil, slOk, sStore, fMt, mtGo, hApp, hFdiv, hMod, hDivmod, outs, List.length_cons, List.length_nil, List.getElem?_cons_zero, List.getElem?_cons_succ, List.getElem?_nil, List.set_cons_zero, List.set_cons_succ, List.replicate_succ, List.replicate_zero, List.cons_append, List.nil_append, Option.bind_some, Option.map_some, cond_true, cond_false, ite_true, ite_false, Nat.reduceAdd, Nat.reduceSub, Nat.reduceEqDiff, Nat.reduceLeDiff, if_true, if_false, reduceIte, atI_n0, atI_n1, atI_n2, atI_n3, ixN_10, ixN_20, ixN_21, hEq_int, hNe_int, Bool.not_true, decide_true, decide_false, hTuple, sTryK, sRaise, Bool.false_eq_true, Bool.not_false, sz0, sz1, sz2, sz3, sz4, sz5, sz6, sz7, sz8, h, k]
theorem said_told {d x : D} (h : d_p_side_by_side [.dat d] = some (.inr (false, x), [.no])) : d_said [.dat d] = some (.inr (false, .str "told"), [.no]) := by
  simp only [d_said, mkFn, sCons, sSet, sPar, sUnp, sIf, sRet, sRetN, sDrop, sNil, sBrk, sCnt, bndS, bnd, rt, opt, fVar, fVal, fBin, fUn, rd1, rd2, Rv.rd, Sl.rd, fD, fzM, Rv.fz, fCons, fNil, dCons, dNil, aCons, aNil, aBoxN, aBox, fCall, resolve, boxes, bxpos, wb, fNm, rdAll, fTup, fLst, hAdd, hSub, hInt2, hMulL, hLt, hLe, hGt, hGe, hNeg, hAbs, hLen, hInt1, hMax2, hMin2, hIx, fSl, oNone, oSome, hSl, fB, toB, fAnd, fOr, fNot, fAndV, fOrV, fNotV, fChain, kName, kTup, kCons, kNil, slOk, sStore, fMt, mtGo, hApp, hFdiv, hMod, hDivmod, outs, List.length_cons, List.length_nil, List.getElem?_cons_zero, List.getElem?_cons_succ, List.getElem?_nil, List.set_cons_zero, List.set_cons_succ, List.replicate_succ, List.replicate_zero, List.cons_append, List.nil_append, Option.bind_some, Option.map_some, cond_true, cond_false, ite_true, ite_false, Nat.reduceAdd, Nat.reduceSub, Nat.reduceEqDiff, Nat.reduceLeDiff, if_true, if_false, reduceIte, atI_n0, atI_n1, atI_n2, atI_n3, ixN_10, ixN_20, ixN_21, hEq_int, hNe_int, Bool.not_true, decide_true, decide_false, hTuple, sTryK, sRaise, Bool.false_eq_true, Bool.not_false, sz0, sz1, sz2, sz3, sz4, sz5, sz6, sz7, sz8, h]
/-- a thing that may be shown, and what is said of it -/
structure Ask (d : D) (w : Str) : Prop where
  said : d_said [.dat d] = some (.inr (false, .str w), [.no])
  rp : hReprM [d] = some (.val (.str d.shown))
  ne : hNe (.str d.shown) (.str d.shown) = some (.val (.bool false))
  nw : hNe (.str w) (.str w) = some (.val (.bool false))
/-- what may stand in a list -/
def El (x : D) : Prop := rm 4 x = true ∧ cost x ≤ 60000
theorem ne_w (w : String) (h : noB (.str w) = true) : hNe (.str w) (.str w) = some (.val (.bool false)) := hNe_t (shaped_by 0 h (by simp [dpth]) (by decide)) (shaped_by 0 h (by simp [dpth]) (by decide)) (eqv_same h)
theorem ask_of {d : D} {w : Str} (h : d_said [.dat d] = some (.inr (false, .str w), [.no])) (hr : rm 5 d = true) (hc : cost d ≤ 2 ^ 24) (hw : hNe (.str w) (.str w) = some (.val (.bool false))) : Ask d w := by
  refine ⟨h, ?_, ne_shownM hr, hw⟩
  show (bif reprM d then some (Rv.val (.str d.shown)) else none) = _
  rw [repr_rm hr (by decide) hc]; rfl
theorem el_list {xs : List D} (h : ∀ x ∈ xs, El x) (hl : xs.length ≤ 20) : rm 5 (.list xs) = true ∧ cost (.list xs) ≤ 2 ^ 24 := by
  refine ⟨?_, ?_⟩
  · show rms 4 xs = true
    exact rms_all.mpr fun x hx => (h x hx).1
  · have := cost_lst (N := 60000) fun x hx => (h x hx).2
    have : (60000 + 2) * xs.length ≤ (60000 + 2) * 20 := Nat.mul_le_mul_left _ hl
    have : (2 : Nat) ^ 24 = 16777216 := by decide
    omega
theorem el_tup {xs : List D} (h : ∀ x ∈ xs, El x) (hl : xs.length ≤ 20) : rm 5 (.tuple xs) = true ∧ cost (.tuple xs) ≤ 2 ^ 24 := by
  refine ⟨?_, ?_⟩
  · show rms 4 xs = true
    exact rms_all.mpr fun x hx => (h x hx).1
  · have := cost_tup (N := 60000) fun x hx => (h x hx).2
    have : (60000 + 2) * xs.length ≤ (60000 + 2) * 20 := Nat.mul_le_mul_left _ hl
    have : (2 : Nat) ^ 24 = 16777216 := by decide
    omega
theorem el_up {d : D} (h : El d) : rm 5 d = true ∧ cost d ≤ 2 ^ 24 := ⟨rm_mono h.1, Nat.le_trans h.2 (by decide)⟩
theorem el_odd {e : D} (h : e ∈ oddL) : El e := ⟨rm_up (oddL_rm e h).1 4 (by decide), Nat.le_trans (oddL_rm e h).2 (by decide)⟩
theorem sm_int {i : Int} (k : Nat) (h : i.natAbs < 2 ^ 60) : rm k (.int i) = true := rm_int k (Nat.lt_of_lt_of_le h (Nat.pow_le_pow_right (by decide) (by decide)))
/-- numbers, short rows of them -/
theorem rm_num {a b c : Int} (ha : a.natAbs < 2 ^ 60) (hb : b.natAbs < 2 ^ 60) (hc : c.natAbs < 2 ^ 60) : rm 1 (tup3 a b c) = true ∧ cost (tup3 a b c) ≤ 6009 := by
  refine ⟨?_, by simp [cost, costs]⟩
  show (rm 0 (.int a) && (rm 0 (.int b) && (rm 0 (.int c) && true))) = true
  rw [sm_int 0 ha, sm_int 0 hb, sm_int 0 hc]; rfl
theorem rm_ints {l : List Int} (h : ∀ x ∈ l, x.natAbs < 2 ^ 60) (hl : l.length ≤ 4) : rm 1 (.tuple (l.map PyData.int)) = true ∧ cost (.tuple (l.map PyData.int)) ≤ 8011 := by
  refine ⟨?_, ?_⟩
  · show rms 0 _ = true
    refine rms_all.mpr fun x hx => ?_
    obtain ⟨i, hi, rfl⟩ := List.mem_map.mp hx
    exact sm_int 0 (h i hi)
  · have := cost_tup (N := 2000) (ds := l.map PyData.int) fun x hx => by
      obtain ⟨i, _, rfl⟩ := List.mem_map.mp hx
      simp [cost]
    rw [List.length_map] at this
    have : (2000 + 2) * l.length ≤ (2000 + 2) * 4 := Nat.mul_le_mul_left _ hl
    omega
theorem rm_longs {xs : List D} (h : ∀ x ∈ xs, ∃ a b d : Int, x = tup3 a b d ∧ a.natAbs < 2 ^ 50 ∧ b.natAbs < 2 ^ 50 ∧ d.natAbs < 2 ^ 50) (hl : xs.length ≤ 4) : rm 2 (.tuple xs) = true ∧ cost (.tuple xs) ≤ 24047 := by
  have hm : ∀ x ∈ xs, rm 1 x = true ∧ cost x ≤ 6009 := fun x hx => by
    obtain ⟨a, b, d, rfl, h1, h2, h3⟩ := h x hx
    exact rm_num (by omega) (by omega) (by omega)
  refine ⟨?_, ?_⟩
  · show rms 1 _ = true
    exact rms_all.mpr fun x hx => (hm x hx).1
  · have := cost_tup (N := 6009) fun x hx => (hm x hx).2
    have : (6009 + 2) * xs.length ≤ (6009 + 2) * 4 := Nat.mul_le_mul_left _ hl
    omega
theorem el_ch {r : Int} {xs : List D} {l : List Int} (hr : r.natAbs < 2 ^ 60) (h : ∀ x ∈ xs, ∃ a b d : Int, x = tup3 a b d ∧ a.natAbs < 2 ^ 50 ∧ b.natAbs < 2 ^ 50 ∧ d.natAbs < 2 ^ 50) (hl : xs.length ≤ 4) (h2 : ∀ x ∈ l, x.natAbs < 2 ^ 60) (hl2 : l.length ≤ 4) : El (.tuple [.int r, .tuple xs, .tuple (l.map PyData.int)]) ∧ El (.list [.int r, .tuple xs, .tuple (l.map PyData.int)]) ∧ El (.tuple [.tuple xs, .tuple (l.map PyData.int)]) := by
  obtain ⟨a1, a2⟩ := rm_longs h hl
  obtain ⟨b1, b2⟩ := rm_ints h2 hl2
  have c1 := rm_up a1 3 (by decide)
  have c2 := rm_up b1 3 (by decide)
  refine ⟨⟨?_, ?_⟩, ⟨?_, ?_⟩, ⟨?_, ?_⟩⟩
  · show (rm 3 (.int r) && (rm 3 (.tuple xs) && (rm 3 (.tuple (l.map PyData.int)) && true))) = true
    rw [sm_int 3 hr, c1, c2]; rfl
  · simp only [cost, costs] at a2 b2 ⊢; omega
  · show (rm 3 (.int r) && (rm 3 (.tuple xs) && (rm 3 (.tuple (l.map PyData.int)) && true))) = true
    rw [sm_int 3 hr, c1, c2]; rfl
  · simp only [cost, costs] at a2 b2 ⊢; omega
  · show (rm 3 (.tuple xs) && (rm 3 (.tuple (l.map PyData.int)) && true)) = true
    rw [c1, c2]; rfl
  · simp only [cost, costs] at a2 b2 ⊢; omega
theorem ord_small {n : Nat} {l : List Int} (h : l.Perm (upto n)) (hn : n ≤ 1000) : ∀ x ∈ l, x.natAbs < 2 ^ 60 := fun x hx => by
  have := upto_mem.mp (h.mem_iff.mp hx)
  omega
theorem sbs_bad2 {xs : List D} {x0 : D} (h1 : 1 ≤ xs.length) (h2 : xs.length ≤ 12) (hF : ∀ x ∈ xs, ∃ b : Bool, d_p_is_change [.dat x] = some (.inr (false, .bool b), [.no])) (hx : x0 ∈ xs) (hb : d_p_is_change [.dat x0] = some (.inr (false, .bool false), [.no])) : d_p_side_by_side [.dat (.list xs)] = some (.inl "NoChange", [.no]) := by
  classical
  refine sbs_bad (F := fun x => decide (d_p_is_change [.dat x] = some (.inr (false, .bool true), [.no]))) h1 h2 (fun x hx => ?_) ?_
  · obtain ⟨b, e⟩ := hF x hx
    rw [e]
    cases b with
    | true => rw [decide_eq_true rfl]
    | false => rw [decide_eq_false (by intro h; injection h with h; injection h with h; injection h with h; injection h with _ h; injection h with h; cases h)]
  · refine List.all_eq_false.mpr ⟨x0, hx, ?_⟩
    rw [hb, decide_eq_false (by intro h; injection h with h; injection h with h; injection h with h; injection h with _ h; injection h with h; cases h)]
    decide
theorem fold_len : ∀ (cs : List Ch) (a : List D × List Int), (cs.foldl catC a).1.length = a.1.length + (cs.map fun c => c.2.1.length).sum
  | [], a => by simp
  | c :: cs, a => by
    rw [List.foldl_cons, fold_len cs, List.map_cons, List.sum_cons]
    unfold catC
    rw [List.length_append]
    omega
theorem sum_le3 : ∀ {cs : List Ch}, (∀ c ∈ cs, ChOk c) → (cs.map fun c => c.2.1.length).sum ≤ 3 * cs.length
  | [], _ => by simp
  | c :: cs, h => by
    have := sum_le3 fun x hx => h x (List.mem_cons_of_mem _ hx)
    have := (h c List.mem_cons_self).h3
    rw [List.map_cons, List.sum_cons, List.length_cons]
    omega
/-! ### the law -/
theorem ch_el {c : Ch} (h : ChOk c) : El (chC c) := (el_ch (Nat.lt_trans h.br (by decide)) h.bl (Nat.le_trans h.h3 (by decide)) (ord_small h.ho (Nat.le_trans h.h3 (by decide))) (by rw [ch_len h]; exact Nat.le_trans h.h3 (by decide))).1
/-- a change that the law has made -/
structure Gd (r : Int) (c : Ch) : Prop where
  hr : c.1 = r
  ok : okRoot r
  h1 : 1 ≤ c.2.1.length
  h3 : c.2.1.length ≤ 3
  g : ∀ x ∈ c.2.1, GoodL r x
  ho : c.2.2.Perm (upto c.2.1.length)
theorem Gd.chok {r : Int} {c : Ch} (h : Gd r c) : ChOk c := by
  obtain ⟨r', l, o⟩ := c
  obtain ⟨rfl, h2, h3, h4, h5, h6⟩ := h
  exact chok_good h2 h5 h3 h4 h6
theorem list_all {cs : List Ch} (h : ∀ c ∈ cs, ChOk c) : ∀ x ∈ cs.map chC, ∃ b : Bool, d_p_is_change [.dat x] = some (.inr (false, .bool b), [.no]) := fun x hx => by
  obtain ⟨c, hc, rfl⟩ := List.mem_map.mp hx
  exact ⟨true, (h c hc).is⟩
theorem list_el {cs : List Ch} (h : ∀ c ∈ cs, ChOk c) : ∀ x ∈ cs.map chC, El x := fun x hx => by
  obtain ⟨c, hc, rfl⟩ := List.mem_map.mp hx
  exact ch_el (h c hc)
/-- .. that has an odd thing is no list of changes -/
theorem ask_odd {xs : List D} {e : D} (he : e ∈ oddL) (h1 : xs.length ≤ 11) (hx : ∀ x ∈ xs, (∃ c : Ch, ChOk c ∧ x = chC c) ∨ x = e) (hm : e ∈ xs) : Ask (.list xs) "change" := by
  have h : d_p_side_by_side [.dat (.list xs)] = some (.inl "NoChange", [.no]) := by
    refine sbs_bad2 (x0 := e) (List.length_pos_of_mem hm) (by omega) (fun x h => ?_) hm (isch_odd e he)
    rcases hx x h with ⟨c, hc, rfl⟩ | rfl
    · exact ⟨true, hc.is⟩
    · exact ⟨false, isch_odd _ he⟩
  have el : ∀ x ∈ xs, El x := fun x h => by
    rcases hx x h with ⟨c, hc, rfl⟩ | rfl
    · exact ch_el hc
    · exact el_odd he
  obtain ⟨a, b⟩ := el_list el (by omega)
  exact ask_of (said_ex h kd_c) a b (ne_w "change" (by decide +kernel))
theorem ask_form {d : D} (hs : notScr d = true) (h : (∀ ds, d = .list ds → ds.length = 0 ∨ 12 < ds.length)) (hr : rm 5 d = true ∧ cost d ≤ 2 ^ 24) : Ask d "change" :=
  ask_of (said_ex (sbs_form hs h) kd_c) hr.1 hr.2 (ne_w "change" (by decide +kernel))
theorem ask_one {x : D} (h : d_p_is_change [.dat x] = some (.inr (false, .bool false), [.no])) (he : El x) : Ask (.list [x]) "change" := by
  obtain ⟨a, b⟩ := el_list (xs := [x]) (fun y hy => by rw [List.mem_singleton.mp hy]; exact he) (by show (1 : Nat) ≤ 20; decide)
  exact ask_of (said_ex (sbs_bad2 (x0 := x) (by show (1 : Nat) ≤ 1; decide) (by show (1 : Nat) ≤ 12; decide) (fun y hy => by rw [List.mem_singleton.mp hy]; exact ⟨false, h⟩) (by simp) h) kd_c) a b (ne_w "change" (by decide +kernel))
theorem less00 {r : Int} (hr : okRoot r) : d_p_less [.dat (.int r), .dat g_NOUGHT, .dat (tup3 0 0 1)] = some (.inr (false, .bool false), [.no, .no, .no]) := by
  have bz : Bt 800 (0 : Int) := by decide
  have hl := nm_pless (A := 0) (B := 0) (A' := 0) (B' := 0) hr (fun _ => ⟨rfl, rfl⟩) bz bz bz bz
  have e : nm 0 0 = tup3 0 0 1 := nm00
  rw [e] at hl
  exact hl
def isZ : D → Bool
  | .tuple [.int a, .int b, .int _] => decide (a = 0 ∧ b = 0)
  | _ => false
/-- the bad things -/
noncomputable abbrev badL (c : Ch) (cs : List Ch) (e : D) (p : Nat) : List D := [.list [], .list (List.replicate 13 (chC c)), .tuple ((c :: cs).map chC), .none, e, .list (cutL ((c :: cs).map chC) none (some ((p : Nat) : Int)) ++ [e] ++ cutL ((c :: cs).map chC) (some ((p : Nat) : Int)) none), chC c,
  .list [.tuple [.tuple c.2.1, .tuple (c.2.2.map PyData.int)]], .list [.list [.int c.1, .tuple c.2.1, .tuple (c.2.2.map PyData.int)]],
  .list [.tuple [.int c.1, .tuple c.2.1, .tuple (c.2.2.map PyData.int ++ [.int 0])]], .list [.tuple [.int c.1, .tuple (cutL c.2.1 none (some (-1)) ++ [tup3 0 0 1]), .tuple (c.2.2.map PyData.int)]]]
theorem bad_ask {r : Int} {c : Ch} {cs : List Ch} {e : D} {p : Nat} (hc : ∀ x ∈ c :: cs, Gd r x) (hl : cs.length ≤ 3) (he : e ∈ oddL) : ∀ d ∈ badL c cs e p, Ask d "change" := by
  have hk : ∀ x ∈ c :: cs, ChOk x := fun x hx => (hc x hx).chok
  have g := hc c List.mem_cons_self
  have k := hk c List.mem_cons_self
  have hr' : c.1.natAbs < 2 ^ 60 := Nat.lt_trans k.br (by decide)
  have h3 := k.h3
  have h1 := k.h1
  have hlo := ch_len k
  have hel := list_el hk
  have hS := ord_small k.ho (by omega)
  have hroot : d_p_is_root [.dat (.int c.1)] = some (.inr (false, .bool true), [.no]) := isroot_ok c.1 (by rw [g.hr]; have := g.ok; unfold okRoot at this; omega)
  intro d hd
  unfold badL at hd
  simp only [List.mem_cons, List.not_mem_nil, or_false] at hd
  rcases hd with rfl | rfl | rfl | rfl | rfl | rfl | rfl | rfl | rfl | rfl | rfl
  · exact ask_form rfl (fun ds h => by cases h; exact .inl rfl) ⟨by decide, by decide⟩
  · refine ask_form rfl (fun ds h => by cases h; exact .inr (by rw [List.length_replicate]; decide)) (el_list (fun x hx => ?_) (by rw [List.length_replicate]; decide))
    rw [List.eq_of_mem_replicate hx]
    exact ch_el k
  · exact ask_form rfl (fun ds h => by cases h) (el_tup hel (by rw [List.length_map, List.length_cons]; omega))
  · exact ask_form rfl (fun ds h => by cases h) ⟨by decide, by decide⟩
  · by_cases hz : ∃ ds, d = .list ds
    · obtain ⟨ds, rfl⟩ := hz
      have : ds = [.int 0, .int 0, .int 1] := by
        unfold oddL at he
        simp only [List.mem_cons, List.not_mem_nil, or_false, reduceCtorEq, false_or, PyData.list.injEq] at he
        exact he
      subst this
      have n0 : ∀ i : Int, d_p_is_change [.dat (.int i)] = some (.inr (false, .bool false), [.no]) := fun i => isch_nt rfl fun ds h => by cases h
      refine ask_of (said_ex (sbs_bad2 (x0 := .int 0) (by decide) (by decide) (fun x hx => ?_) (by simp) (n0 0)) kd_c) (by decide +kernel) (by decide +kernel) (ne_w "change" (by decide +kernel))
      simp only [List.mem_cons, List.not_mem_nil, or_false] at hx
      rcases hx with rfl | rfl | rfl
      · exact ⟨false, n0 _⟩
      · exact ⟨false, n0 _⟩
      · exact ⟨false, n0 _⟩
    · exact ask_form (rm_scr (oddL_rm d he).1) (fun ds h => absurd ⟨ds, h⟩ hz) (el_up (el_odd he))
  · have l1 := cut_len ((c :: cs).map chC) none (some ((p : Nat) : Int))
    have l2 := cut_len ((c :: cs).map chC) (some ((p : Nat) : Int)) none
    rw [List.length_map, List.length_cons] at l1 l2
    refine ask_odd he (by rw [List.length_append, List.length_append, List.length_singleton]; omega) (fun x hx => ?_) (by simp)
    rw [List.mem_append, List.mem_append, List.mem_singleton] at hx
    rcases hx with (hx | hx) | hx
    · obtain ⟨y, hy, rfl⟩ := List.mem_map.mp (cut_mem hx)
      exact .inl ⟨y, hk y hy, rfl⟩
    · exact .inr hx
    · obtain ⟨y, hy, rfl⟩ := List.mem_map.mp (cut_mem hx)
      exact .inl ⟨y, hk y hy, rfl⟩
  · exact ask_form rfl (fun ds h => by cases h) (el_up (ch_el k))
  · exact ask_one (isch_len (by show ¬ (2 : Nat) = 3; decide)) (el_ch hr' k.bl (by omega) hS (by omega)).2.2
  · exact ask_one (isch_nt rfl fun ds h => by cases h) (el_ch hr' k.bl (by omega) hS (by omega)).2.1
  · have em : c.2.2.map PyData.int ++ [.int 0] = (c.2.2 ++ [0]).map PyData.int := by rw [List.map_append]; rfl
    rw [em]
    have hS2 : ∀ x ∈ c.2.2 ++ [0], x.natAbs < 2 ^ 60 := fun x hx => by
      rw [List.mem_append, List.mem_singleton] at hx
      rcases hx with hx | rfl
      · exact hS x hx
      · decide
    refine ask_one ?_ (el_ch hr' k.bl (by omega) hS2 (by rw [List.length_append, List.length_singleton]; omega)).1
    have := isch_3 (F := fun _ => true) hroot h1 (by omega) (fun x hx => by
      have gn := good_num g.ok (g.g x hx)
      rw [← g.hr] at gn
      exact ⟨true, gn.1, fun _ => gn.2, fun h => by cases h⟩) (os := (c.2.2 ++ [0]).map PyData.int) rfl (by rw [List.length_append, List.length_singleton]; omega)
    rw [this, decide_eq_false, Bool.and_false]
    intro hq
    have h1 := (srtI_perm (c.2.2 ++ [0])).length_eq
    rw [hq, upto_length, List.length_append, List.length_singleton] at h1
    omega
  · have lc := cut_len c.2.1 none (some (-1))
    have ed : cutL c.2.1 none (some (-1)) = c.2.1.dropLast := cutL_dl _
    rw [ed] at lc ⊢
    have hb : ∀ x ∈ c.2.1.dropLast ++ [tup3 0 0 1], ∃ a b d : Int, x = tup3 a b d ∧ a.natAbs < 2 ^ 50 ∧ b.natAbs < 2 ^ 50 ∧ d.natAbs < 2 ^ 50 := fun x hx => by
      rw [List.mem_append, List.mem_singleton] at hx
      rcases hx with hx | rfl
      · exact k.bl x ((List.dropLast_sublist c.2.1).subset hx)
      · exact ⟨0, 0, 1, rfl, by decide, by decide, by decide⟩
    have hlen : (c.2.1.dropLast ++ [tup3 0 0 1]).length = c.2.1.length := by rw [List.length_append, List.length_singleton, List.length_dropLast]; omega
    refine ask_one ?_ (el_ch hr' hb (by omega) hS (by omega)).1
    have := isch_3 (r := c.1) (F := fun x => !isZ x) (xs := c.2.1.dropLast ++ [tup3 0 0 1]) hroot (by omega) (by omega) (fun x hx => by
      rw [List.mem_append, List.mem_singleton] at hx
      rcases hx with hx | rfl
      · have gl := g.g x ((List.dropLast_sublist c.2.1).subset hx)
        have gn := good_num g.ok gl
        rw [← g.hr] at gn
        refine ⟨true, gn.1, fun _ => ?_, fun h => by cases h⟩
        rw [gn.2]
        obtain ⟨a, b, d, rfl, _, _, _, _, _, _, _, hne, _⟩ := gl
        have : isZ (tup3 a b d) = decide (a = 0 ∧ b = 0) := rfl
        rw [this, decide_eq_false (by omega)]; rfl
      · refine ⟨true, ?_, fun _ => ?_, fun h => by cases h⟩
        · rw [numok ⟨by decide, by decide, by decide⟩]
          have : isNumB c.1 (tup3 0 0 1) = (decide ((1 : Int) ≤ 1) && !(decide (c.1 = 0) && !decide ((0 : Int) = 0)) && decide (g3 0 0 1 = 1)) := rfl
          rw [this, decide_eq_true (show (0 : Int) = 0 from rfl), decide_eq_true (show (1 : Int) ≤ 1 by decide), decide_eq_true (show g3 0 0 1 = 1 by decide)]
          cases decide (c.1 = 0) <;> rfl
        · have := less00 g.ok
          rw [← g.hr] at this
          exact this) (os := c.2.2.map PyData.int) rfl (by omega)
    rw [this]
    have hz : (c.2.1.dropLast ++ [tup3 0 0 1]).all (fun x => !isZ x) = false := List.all_eq_false.mpr ⟨tup3 0 0 1, by simp, by decide⟩
    rw [hz, Bool.false_and]
/-- the other things, and what is due -/
noncomputable abbrev thgL (c : Ch) (cs : List Ch) (e : D) : List (Str × D) := [("unlike", .list ((c :: cs).map chC ++ [chC oC])), ("unlike", .list (List.replicate 5 (chC oC) ++ [chC c])), ("many", .list (List.replicate 5 (chC oC))), ("told", .list (List.replicate 4 (chC oC))),
  ("change", .list ((c :: cs).map chC ++ [chC oC, e])), ("change", .list (List.replicate 5 (chC oC) ++ [e])), ("change", .list ([e] ++ List.replicate 5 (chC oC) ++ (c :: cs).map chC))]
theorem el_chs {ds : List Ch} (h : ∀ c ∈ ds, ChOk c) (hl : ds.length ≤ 20) : rm 5 (.list (ds.map chC)) = true ∧ cost (.list (ds.map chC)) ≤ 2 ^ 24 := el_list (list_el h) (by rw [List.length_map]; exact hl)
theorem thg_ask {r : Int} {c : Ch} {cs : List Ch} {e : D} (hc : ∀ x ∈ c :: cs, Gd r x) (hl : cs.length ≤ 3) (he : e ∈ oddL) : ∀ w ∈ thgL c cs e, Ask w.2 w.1 := by
  have hk : ∀ x ∈ c :: cs, ChOk x := fun x hx => (hc x hx).chok
  have g := hc c List.mem_cons_self
  have ko := chok_other
  have nr : c.1 ≠ 11 := by rw [g.hr]; have := g.ok; unfold okRoot at this; omega
  intro w hw
  unfold thgL at hw
  simp only [List.mem_cons, List.not_mem_nil, or_false] at hw
  rcases hw with rfl | rfl | rfl | rfl | rfl | rfl | rfl
  · have ha : ∀ x ∈ c :: (cs ++ [oC]), ChOk x := fun x hx => by
      simp only [List.mem_cons, List.mem_append, List.not_mem_nil, or_false] at hx
      rcases hx with rfl | hx | rfl
      · exact hk _ List.mem_cons_self
      · exact hk x (List.mem_cons_of_mem _ hx)
      · exact ko
    have hs := sbs_good ha (by rw [List.length_cons, List.length_append, List.length_singleton]; omega)
    rw [if_pos (List.any_eq_true.mpr ⟨oC, by simp, by rw [decide_eq_false (fun h => nr h.symm)]; rfl⟩)] at hs
    have em : (c :: (cs ++ [oC])).map chC = (c :: cs).map chC ++ [chC oC] := by rw [List.map_cons, List.map_append]; rfl
    have er := el_chs ha (by rw [List.length_cons, List.length_append, List.length_singleton]; omega)
    rw [em] at hs er
    exact ask_of (said_ex hs kd_u) er.1 er.2 (ne_w "unlike" (by decide +kernel))
  · have ha : ∀ x ∈ oC :: (List.replicate 4 oC ++ [c]), ChOk x := fun x hx => by
      simp only [List.mem_cons, List.mem_append, List.not_mem_nil, or_false] at hx
      rcases hx with rfl | hx | rfl
      · exact ko
      · rw [List.eq_of_mem_replicate hx]; exact ko
      · exact hk _ List.mem_cons_self
    have hs := sbs_good ha (by simp)
    rw [if_pos (List.any_eq_true.mpr ⟨c, by simp, by rw [decide_eq_false nr]; rfl⟩)] at hs
    have er := el_chs ha (by simp)
    exact ask_of (said_ex hs kd_u) er.1 er.2 (ne_w "unlike" (by decide +kernel))
  · have ha : ∀ x ∈ oC :: List.replicate 4 oC, ChOk x := fun x hx => by
      rcases List.mem_cons.mp hx with rfl | hx
      · exact ko
      · rw [List.eq_of_mem_replicate hx]; exact ko
    have hs := sbs_good ha (by decide)
    rw [if_neg (by decide), if_pos (by rw [fold_len]; decide)] at hs
    have er := el_chs ha (by decide)
    exact ask_of (said_ex hs kd_m) er.1 er.2 (ne_w "many" (by decide +kernel))
  · have ha : ∀ x ∈ oC :: List.replicate 3 oC, ChOk x := fun x hx => by
      rcases List.mem_cons.mp hx with rfl | hx
      · exact ko
      · rw [List.eq_of_mem_replicate hx]; exact ko
    have hs := sbs_good ha (by decide)
    rw [if_neg (by decide), if_neg (by rw [fold_len]; decide)] at hs
    have er := el_chs ha (by decide)
    exact ask_of (said_told hs) er.1 er.2 (ne_w "told" (by decide +kernel))
  · refine ask_odd he (by simp only [List.length_append, List.length_map, List.length_cons, List.length_nil]; omega) (fun x hx => ?_) (by simp)
    rw [List.mem_append] at hx
    rcases hx with hx | hx
    · obtain ⟨y, hy, rfl⟩ := List.mem_map.mp hx
      exact .inl ⟨y, hk y hy, rfl⟩
    · simp only [List.mem_cons, List.not_mem_nil, or_false] at hx
      rcases hx with rfl | rfl
      · exact .inl ⟨oC, ko, rfl⟩
      · exact .inr rfl
  · refine ask_odd he (by simp only [List.length_append, List.length_replicate, List.length_cons, List.length_nil]; omega) (fun x hx => ?_) (by simp)
    rw [List.mem_append, List.mem_singleton] at hx
    rcases hx with hx | rfl
    · rw [List.eq_of_mem_replicate hx]
      exact .inl ⟨oC, ko, rfl⟩
    · exact .inr rfl
  · refine ask_odd he (by simp only [List.length_append, List.length_replicate, List.length_cons, List.length_nil, List.length_map]; omega) (fun x hx => ?_) (by simp)
    rw [List.mem_append, List.mem_append, List.mem_singleton] at hx
    rcases hx with (rfl | hx) | hx
    · exact .inr rfl
    · rw [List.eq_of_mem_replicate hx]
      exact .inl ⟨oC, ko, rfl⟩
    · obtain ⟨y, hy, rfl⟩ := List.mem_map.mp hx
      exact .inl ⟨y, hk y hy, rfl⟩
/-! ### the law's body -/
theorem chs_ex (S0 S1 S5 S6 S7 S8 S9 S10 S11 S12 S13 S14 : Sl) (s4 : Sl) {r : Int} (hr : okRoot r) (many : Nat) (hm : many ≤ 100) (n : Int) : ∃ (n' : Int) (cs : List Ch), cs.length = many ∧ (∀ c ∈ cs, Gd r c) ∧
    lcL [15] (kName 15) tYesF (fCall d_change (aBoxN 2 (aCons (fVal (.int 3)) (aCons (fLst (dCons (fVar 3) dNil)) aNil)))) (uptoD many) [] [S0, S1, .own 0 (.list [.int n]), .dat (.int r), s4, S5, S6, S7, S8, S9, S10, S11, S12, S13, S14, .no] = some (cs.map chC, [S0, S1, .own 0 (.list [.int n']), .dat (.int r), s4, S5, S6, S7, S8, S9, S10, S11, S12, S13, S14, .no]) := by
  have br : Bt 60 r := by unfold okRoot at hr; exact smallB (by omega)
  obtain ⟨out, fs', e1, ⟨n', rfl⟩, e3, e4⟩ := lcL_inv (vs := [15]) (g := kName 15) (fe := fCall d_change (aBoxN 2 (aCons (fVal (.int 3)) (aCons (fLst (dCons (fVar 3) dNil)) aNil)))) (fun fs => ∃ n, fs = [S0, S1, .own 0 (.list [.int n]), .dat (.int r), s4, S5, S6, S7, S8, S9, S10, S11, S12, S13, S14, .no]) (fun d => ∃ c : Ch, Gd r c ∧ d = chC c)
    (uptoD many) [] _ (by rw [List.length_nil, List.length_map, List.length_range]; exact szl _ (by omega)) ⟨n, rfl⟩ (by
      rintro d hd fs ⟨n, rfl⟩
      obtain ⟨n', r', l, o, hr', ha, hb, hc, hp, ec⟩ := change_ex n 3 (by decide) (by decide) [r] (by simp) (by rw [List.length_singleton]; decide) (fun x hx => by rw [List.mem_singleton] at hx; rw [hx]; exact br)
      rw [List.mem_singleton] at hr'
      subst hr'
      have ec' : d_change [.own 1 (.list [.int n]), .dat (.int 3), .dat (.list [.int r'])] = some (.inr (false, chC (r', l, o)), [.own 1 (.list [.int n']), .no, .no]) := ec
      refine ⟨_, [S0, S1, .own 0 (.list [.int n']), .dat (.int r'), s4, S5, S6, S7, S8, S9, S10, S11, S12, S13, S14, .dat d], chC (r', l, o), rfl, ?_, ⟨(r', l, o), ⟨rfl, hr, ha, hb, hc, hp⟩, rfl⟩, n', rfl⟩
      generalize chC (r', l, o) = C at *
      simp only [mkFn, sCons, sSet, sPar, sUnp, sIf, sRet, sRetN, sDrop, sNil, sBrk, sCnt, bndS, bnd, rt, opt, fVar, fVal, fBin, fUn, rd1, rd2, Rv.rd, Sl.rd, fD, fzM, Rv.fz, fCons, fNil, dCons, dNil, aCons, aNil, aBoxN, aBox, fCall, resolve, boxes, bxpos, wb, fNm, rdAll, fTup, fLst, hAdd, hSub, hInt2, hMulL, hLt, hLe, hGt, hGe, hNeg, hAbs, hLen, hInt1, hMax2, hMin2, hIx, fSl, oNone, oSome, hSl, fB, toB, fAnd, fOr, fNot, fAndV, fOrV, fNotV, fChain, kName, kTup, kCons, kNil, slOk, sStore, fMt, mtGo, hApp, hFdiv, hMod, hDivmod, outs, List.length_cons, List.length_nil, List.getElem?_cons_zero, List.getElem?_cons_succ, List.getElem?_nil, List.set_cons_zero, List.set_cons_succ, List.replicate_succ, List.replicate_zero, List.cons_append, List.nil_append, Option.bind_some, Option.map_some, cond_true, cond_false, ite_true, ite_false, Nat.reduceAdd, Nat.reduceSub, Nat.reduceEqDiff, Nat.reduceLeDiff, if_true, if_false, reduceIte, atI_n0, atI_n1, atI_n2, atI_n3, ixN_10, ixN_20, ixN_21, hEq_int, hNe_int, Bool.not_true, decide_true, decide_false, hTuple, sTryK, sRaise, Bool.false_eq_true, Bool.not_false, sz0, sz1, sz2, sz3, sz4, sz5, sz6, sz7, sz8, ec'])
  rw [List.nil_append] at e1
  have : ∀ out : List D, (∀ x ∈ out, ∃ c : Ch, Gd r c ∧ x = chC c) → ∃ cs : List Ch, out = cs.map chC ∧ ∀ c ∈ cs, Gd r c := by
    intro out
    induction out with
    | nil => intro _; exact ⟨[], rfl, fun c h => by cases h⟩
    | cons x xs ih =>
      intro h
      obtain ⟨c, hc, rfl⟩ := h x List.mem_cons_self
      obtain ⟨cs, rfl, hcs⟩ := ih fun y hy => h y (List.mem_cons_of_mem _ hy)
      refine ⟨c :: cs, rfl, fun y hy => ?_⟩
      rcases List.mem_cons.mp hy with rfl | hy
      · exact hc
      · exact hcs y hy
  obtain ⟨cs, rfl, hcs⟩ := this out e4
  refine ⟨n', cs, by rw [List.length_map, List.length_map, List.length_range] at e3; exact e3, hcs, e1⟩
noncomputable abbrev b82 : SM := sCons (sSet 11 (fNm hReprM (fCons (fVar 10) fNil)))
  (sIf (fOr (fB (fBin hNe (fCall d_said (aCons (fVar 10) aNil)) (fVal (.str "change")))) (fB (fBin hNe (fNm hReprM (fCons (fVar 10) fNil)) (fVar 11)))) (sRet (fVal (.bool false))) sNil)
theorem bad_loop (S0 S1 S2 S3 S4 S5 S6 S7 S8 S9 S12 S13 S14 S15 : Sl) : ∀ (ds : List D) (s10 s11 : Sl), (∀ d ∈ ds, Ask d "change") → ∃ s10' s11', forL (kName 10) b82 ds [S0, S1, S2, S3, S4, S5, S6, S7, S8, S9, s10, s11, S12, S13, S14, S15] = some (.nx, [S0, S1, S2, S3, S4, S5, S6, S7, S8, S9, s10', s11', S12, S13, S14, S15])
  | [], s10, s11, _ => ⟨s10, s11, rfl⟩
  | d :: ds, s10, s11, h => by
    obtain ⟨q1, q2, q3, q4⟩ := h d List.mem_cons_self
    obtain ⟨s10', s11', e⟩ := bad_loop S0 S1 S2 S3 S4 S5 S6 S7 S8 S9 S12 S13 S14 S15 ds (.dat d) (.dat (.str d.shown)) fun x hx => h x (List.mem_cons_of_mem _ hx)
    refine ⟨s10', s11', ?_⟩
    rw [forL_nx (fs1 := [S0, S1, S2, S3, S4, S5, S6, S7, S8, S9, .dat d, s11, S12, S13, S14, S15]) (fs2 := [S0, S1, S2, S3, S4, S5, S6, S7, S8, S9, .dat d, .dat (.str d.shown), S12, S13, S14, S15]) rfl (by
      generalize d.shown = sh at *
      unfold b82
      rw [sCons_nx (fs1 := [S0, S1, S2, S3, S4, S5, S6, S7, S8, S9, .dat d, .dat (.str sh), S12, S13, S14, S15]) (by simp only [mkFn, sCons, sSet, sPar, sUnp, sIf, sRet, sRetN, sDrop, sNil, sBrk, sCnt, bndS, bnd, rt, opt, fVar, fVal, fBin, fUn, rd1, rd2, Rv.rd, Sl.rd, fD, fzM, Rv.fz, fCons, fNil, dCons, dNil, aCons, aNil, aBoxN, aBox, fCall, resolve, boxes, bxpos, wb, fNm, rdAll, fTup, fLst, hAdd, hSub, hInt2, hMulL, hLt, hLe, hGt, hGe, hNeg, hAbs, hLen, hInt1, hMax2, hMin2, hIx, fSl, oNone, oSome, hSl, fB, toB, fAnd, fOr, fNot, fAndV, fOrV, fNotV, fChain, kName, kTup, kCons, kNil, slOk, sStore, fMt, mtGo, hApp, hFdiv, hMod, hDivmod, outs, List.length_cons, List.length_nil, List.getElem?_cons_zero, List.getElem?_cons_succ, List.getElem?_nil, List.set_cons_zero, List.set_cons_succ, List.replicate_succ, List.replicate_zero, List.cons_append, List.nil_append, Option.bind_some, Option.map_some, cond_true, cond_false, ite_true, ite_false, Nat.reduceAdd, Nat.reduceSub, Nat.reduceEqDiff, Nat.reduceLeDiff, if_true, if_false, reduceIte, atI_n0, atI_n1, atI_n2, atI_n3, ixN_10, ixN_20, ixN_21, hEq_int, hNe_int, Bool.not_true, decide_true, decide_false, hTuple, sTryK, sRaise, Bool.false_eq_true, Bool.not_false, sz0, sz1, sz2, sz3, sz4, sz5, sz6, sz7, sz8, q2])]
      simp only [mkFn, sCons, sSet, sPar, sUnp, sIf, sRet, sRetN, sDrop, sNil, sBrk, sCnt, bndS, bnd, rt, opt, fVar, fVal, fBin, fUn, rd1, rd2, Rv.rd, Sl.rd, fD, fzM, Rv.fz, fCons, fNil, dCons, dNil, aCons, aNil, aBoxN, aBox, fCall, resolve, boxes, bxpos, wb, fNm, rdAll, fTup, fLst, hAdd, hSub, hInt2, hMulL, hLt, hLe, hGt, hGe, hNeg, hAbs, hLen, hInt1, hMax2, hMin2, hIx, fSl, oNone, oSome, hSl, fB, toB, fAnd, fOr, fNot, fAndV, fOrV, fNotV, fChain, kName, kTup, kCons, kNil, slOk, sStore, fMt, mtGo, hApp, hFdiv, hMod, hDivmod, outs, List.length_cons, List.length_nil, List.getElem?_cons_zero, List.getElem?_cons_succ, List.getElem?_nil, List.set_cons_zero, List.set_cons_succ, List.replicate_succ, List.replicate_zero, List.cons_append, List.nil_append, Option.bind_some, Option.map_some, cond_true, cond_false, ite_true, ite_false, Nat.reduceAdd, Nat.reduceSub, Nat.reduceEqDiff, Nat.reduceLeDiff, if_true, if_false, reduceIte, atI_n0, atI_n1, atI_n2, atI_n3, ixN_10, ixN_20, ixN_21, hEq_int, hNe_int, Bool.not_true, decide_true, decide_false, hTuple, sTryK, sRaise, Bool.false_eq_true, Bool.not_false, sz0, sz1, sz2, sz3, sz4, sz5, sz6, sz7, sz8, q1, q2, q3, q4])]
    exact e
noncomputable abbrev t82 : SM := sCons (sSet 11 (fNm hReprM (fCons (fVar 10) fNil)))
  (sIf (fOr (fB (fBin hNe (fCall d_said (aCons (fVar 10) aNil)) (fVar 14))) (fB (fBin hNe (fNm hReprM (fCons (fVar 10) fNil)) (fVar 11)))) (sRet (fVal (.bool false))) sNil)
theorem thg_loop (S0 S1 S2 S3 S4 S5 S6 S7 S8 S9 S12 S13 S15 : Sl) : ∀ (ds : List (Str × D)) (s10 s11 s14 : Sl), (∀ d ∈ ds, Ask d.2 d.1) → ∃ s10' s11' s14', forL (kTup 2 (kCons (kName 14) (kCons (kName 10) kNil))) t82 (ds.map fun d => .tuple [.str d.1, d.2]) [S0, S1, S2, S3, S4, S5, S6, S7, S8, S9, s10, s11, S12, S13, s14, S15] = some (.nx, [S0, S1, S2, S3, S4, S5, S6, S7, S8, S9, s10', s11', S12, S13, s14', S15])
  | [], s10, s11, s14, _ => ⟨s10, s11, s14, rfl⟩
  | (w, d) :: ds, s10, s11, s14, h => by
    obtain ⟨q1, q2, q3, q4⟩ := h (w, d) List.mem_cons_self
    simp only at q1 q2 q3 q4
    obtain ⟨s10', s11', s14', e⟩ := thg_loop S0 S1 S2 S3 S4 S5 S6 S7 S8 S9 S12 S13 S15 ds (.dat d) (.dat (.str d.shown)) (.dat (.str w)) fun x hx => h x (List.mem_cons_of_mem _ hx)
    refine ⟨s10', s11', s14', ?_⟩
    rw [List.map_cons, forL_nx (fs1 := [S0, S1, S2, S3, S4, S5, S6, S7, S8, S9, .dat d, s11, S12, S13, .dat (.str w), S15]) (fs2 := [S0, S1, S2, S3, S4, S5, S6, S7, S8, S9, .dat d, .dat (.str d.shown), S12, S13, .dat (.str w), S15]) rfl (by
      generalize d.shown = sh at *
      unfold t82
      rw [sCons_nx (fs1 := [S0, S1, S2, S3, S4, S5, S6, S7, S8, S9, .dat d, .dat (.str sh), S12, S13, .dat (.str w), S15]) (by simp only [mkFn, sCons, sSet, sPar, sUnp, sIf, sRet, sRetN, sDrop, sNil, sBrk, sCnt, bndS, bnd, rt, opt, fVar, fVal, fBin, fUn, rd1, rd2, Rv.rd, Sl.rd, fD, fzM, Rv.fz, fCons, fNil, dCons, dNil, aCons, aNil, aBoxN, aBox, fCall, resolve, boxes, bxpos, wb, fNm, rdAll, fTup, fLst, hAdd, hSub, hInt2, hMulL, hLt, hLe, hGt, hGe, hNeg, hAbs, hLen, hInt1, hMax2, hMin2, hIx, fSl, oNone, oSome, hSl, fB, toB, fAnd, fOr, fNot, fAndV, fOrV, fNotV, fChain, kName, kTup, kCons, kNil, slOk, sStore, fMt, mtGo, hApp, hFdiv, hMod, hDivmod, outs, List.length_cons, List.length_nil, List.getElem?_cons_zero, List.getElem?_cons_succ, List.getElem?_nil, List.set_cons_zero, List.set_cons_succ, List.replicate_succ, List.replicate_zero, List.cons_append, List.nil_append, Option.bind_some, Option.map_some, cond_true, cond_false, ite_true, ite_false, Nat.reduceAdd, Nat.reduceSub, Nat.reduceEqDiff, Nat.reduceLeDiff, if_true, if_false, reduceIte, atI_n0, atI_n1, atI_n2, atI_n3, ixN_10, ixN_20, ixN_21, hEq_int, hNe_int, Bool.not_true, decide_true, decide_false, hTuple, sTryK, sRaise, Bool.false_eq_true, Bool.not_false, sz0, sz1, sz2, sz3, sz4, sz5, sz6, sz7, sz8, q2])]
      simp only [mkFn, sCons, sSet, sPar, sUnp, sIf, sRet, sRetN, sDrop, sNil, sBrk, sCnt, bndS, bnd, rt, opt, fVar, fVal, fBin, fUn, rd1, rd2, Rv.rd, Sl.rd, fD, fzM, Rv.fz, fCons, fNil, dCons, dNil, aCons, aNil, aBoxN, aBox, fCall, resolve, boxes, bxpos, wb, fNm, rdAll, fTup, fLst, hAdd, hSub, hInt2, hMulL, hLt, hLe, hGt, hGe, hNeg, hAbs, hLen, hInt1, hMax2, hMin2, hIx, fSl, oNone, oSome, hSl, fB, toB, fAnd, fOr, fNot, fAndV, fOrV, fNotV, fChain, kName, kTup, kCons, kNil, slOk, sStore, fMt, mtGo, hApp, hFdiv, hMod, hDivmod, outs, List.length_cons, List.length_nil, List.getElem?_cons_zero, List.getElem?_cons_succ, List.getElem?_nil, List.set_cons_zero, List.set_cons_succ, List.replicate_succ, List.replicate_zero, List.cons_append, List.nil_append, Option.bind_some, Option.map_some, cond_true, cond_false, ite_true, ite_false, Nat.reduceAdd, Nat.reduceSub, Nat.reduceEqDiff, Nat.reduceLeDiff, if_true, if_false, reduceIte, atI_n0, atI_n1, atI_n2, atI_n3, ixN_10, ixN_20, ixN_21, hEq_int, hNe_int, Bool.not_true, decide_true, decide_false, hTuple, sTryK, sRaise, Bool.false_eq_true, Bool.not_false, sz0, sz1, sz2, sz3, sz4, sz5, sz6, sz7, sz8, q1, q2, q3, q4])]
    exact e
theorem hm13 (x : D) : hMulL (.list [x]) (.int 13) = some (.fresh (.list (List.replicate 13 x))) := rfl
theorem hm5 (x : D) : hMulL (.list [x]) (.int 5) = some (.fresh (.list (List.replicate 5 x))) := rfl
theorem hm4 (x : D) : hMulL (.list [x]) (.int 4) = some (.fresh (.list (List.replicate 4 x))) := rfl
theorem mulL_ev {i : Nat} {k : Int} {F : Fs} {x : D} {out : List D} (h : F[i]? = some (.dat x)) (hm : hMulL (.list [x]) (.int k) = some (.fresh (.list out))) : fBin hMulL (fLst (dCons (fVar i) dNil)) (fVal (.int k)) F = some (.inr (.fresh (.list out)), F) := by
  have e1 : fVar i F = some (.inr (.val x), F) := by unfold fVar; rw [h]
  have e2 : fLst (dCons (fVar i) dNil) F = some (.inr (.fresh (.list [x])), F) := by
    generalize fVar i = V at e1 ⊢
    simp only [mkFn, sCons, sSet, sPar, sUnp, sIf, sRet, sRetN, sDrop, sNil, sBrk, sCnt, bndS, bnd, rt, opt, fVar, fVal, fBin, fUn, rd1, rd2, Rv.rd, Sl.rd, fD, fzM, Rv.fz, fCons, fNil, dCons, dNil, aCons, aNil, aBoxN, aBox, fCall, resolve, boxes, bxpos, wb, fNm, rdAll, fTup, fLst, hAdd, hSub, hInt2, hMulL, hLt, hLe, hGt, hGe, hNeg, hAbs, hLen, hInt1, hMax2, hMin2, hIx, fSl, oNone, oSome, hSl, fB, toB, fAnd, fOr, fNot, fAndV, fOrV, fNotV, fChain, kName, kTup, kCons, kNil, slOk, sStore, fMt, mtGo, hApp, hFdiv, hMod, hDivmod, outs, List.length_cons, List.length_nil, List.getElem?_cons_zero, List.getElem?_cons_succ, List.getElem?_nil, List.set_cons_zero, List.set_cons_succ, List.replicate_succ, List.replicate_zero, List.cons_append, List.nil_append, Option.bind_some, Option.map_some, cond_true, cond_false, ite_true, ite_false, Nat.reduceAdd, Nat.reduceSub, Nat.reduceEqDiff, Nat.reduceLeDiff, if_true, if_false, reduceIte, atI_n0, atI_n1, atI_n2, atI_n3, ixN_10, ixN_20, ixN_21, hEq_int, hNe_int, Bool.not_true, decide_true, decide_false, hTuple, sTryK, sRaise, Bool.false_eq_true, Bool.not_false, sz0, sz1, sz2, sz3, sz4, sz5, sz6, sz7, sz8, e1]
  generalize fLst _ = E at e2 ⊢
  generalize hMulL = HM at *
  simp only [fBin, bnd, e2, fVal, rd2, Rv.rd, hm]
noncomputable abbrev body82 : SM := sCons (sSet 2 (fCall d_box (aCons (fVar 0) (aCons (fVar 1) aNil))))
  (sCons (sSet 3 (fBin hIx (fLst (dCons (fVal (.int 0)) (dCons (fVal (.int 0)) (dCons (fVal (.int 0)) (dCons (fVal (.int 2)) (dCons (fVal (.int 3)) (dCons (fVal (.int 5)) (dCons (fVal (.int 7)) dNil)))))))) (fCall d_take (aBoxN 2 (aCons (fVal (.int 7)) aNil)))))
  (sCons (sSet 4 (fLc [15] (fiR1 (dCons (fBin hAdd (fVal (.int 1)) (fCall d_take (aBoxN 2 (aCons (fVal (.int 4)) aNil)))) dNil)) (kName 15) tYesF (fCall d_change (aBoxN 2 (aCons (fVal (.int 3)) (aCons (fLst (dCons (fVar 3) dNil)) aNil))))))
  (sCons (sSet 5 (fNm hList (fCons (fVar 4) fNil)))
  (sCons (sIf (fOr (fB (fBin hNe (fCall d_p_side_by_side (aCons (fVar 5) aNil)) (fCall d_due (aCons (fVar 4) aNil)))) (fB (fBin hNe (fVar 5) (fVar 4)))) (sRet (fVal (.bool false))) sNil)
  (sCons (sSet 6 (fBin hIx (fVar 4) (fVal (.int 0))))
  (sCons (sSet 7 (fCall d_odd (aBoxN 2 aNil)))
  (sCons (sSet 8 (fCall d_take (aBoxN 2 (aCons (fBin hAdd (fNm hLen (fCons (fVar 4) fNil)) (fVal (.int 1))) aNil))))
  (sCons (sSet 9 (fLst (dCons (fLst dNil) (dCons (fBin hMulL (fLst (dCons (fVar 6) dNil)) (fVal (.int 13))) (dCons (fNm hTuple (fCons (fVar 4) fNil)) (dCons (fVal .none) (dCons (fVar 7) (dCons (fBin hAdd (fBin hAdd (fSl (fVar 4) oNone (oSome (fVar 8))) (fLst (dCons (fVar 7) dNil))) (fSl (fVar 4) (oSome (fVar 8)) oNone)) (dCons (fVar 6) dNil)))))))))
  (sCons (sSet 9 (fBin hAdd (fVar 9) (fLst (dCons (fLst (dCons (fSl (fVar 6) (oSome (fVal (.int 1))) oNone) dNil)) (dCons (fLst (dCons (fNm hList (fCons (fVar 6) fNil)) dNil)) dNil)))))
  (sCons (sSet 9 (fBin hAdd (fVar 9) (fLst (dCons (fLst (dCons (fTup (dCons (fBin hIx (fVar 6) (fVal (.int 0))) (dCons (fBin hIx (fVar 6) (fVal (.int 1))) (dCons (fBin hAdd (fBin hIx (fVar 6) (fVal (.int 2))) (fTup (dCons (fVal (.int 0)) dNil))) dNil)))) dNil)) (dCons (fLst (dCons (fTup (dCons (fBin hIx (fVar 6) (fVal (.int 0))) (dCons (fBin hAdd (fSl (fBin hIx (fVar 6) (fVal (.int 1))) oNone (oSome (fUn hNeg (fVal (.int 1))))) (fTup (dCons (fTup (dCons (fVal (.int 0)) (dCons (fVal (.int 0)) (dCons (fVal (.int 1)) dNil)))) dNil))) (dCons (fBin hIx (fVar 6) (fVal (.int 2))) dNil)))) dNil)) dNil)))))
  (sCons (sFor (fiS (fD (fVar 9))) (kName 10) (sCons (sSet 11 (fNm hReprM (fCons (fVar 10) fNil)))
  (sIf (fOr (fB (fBin hNe (fCall d_said (aCons (fVar 10) aNil)) (fVal (.str "change")))) (fB (fBin hNe (fNm hReprM (fCons (fVar 10) fNil)) (fVar 11)))) (sRet (fVal (.bool false))) sNil)))
  (sCons (sSet 12 (fTup (dCons (fVal (.int 11)) (dCons (fBin hMulT (fTup (dCons (fTup (dCons (fVal (.int 1)) (dCons (fVal (.int 0)) (dCons (fVal (.int 1)) dNil)))) dNil)) (fVal (.int 3))) (dCons (fTup (dCons (fVal (.int 2)) (dCons (fVal (.int 1)) (dCons (fVal (.int 0)) dNil)))) dNil)))))
  (sCons (sSet 13 (fLst (dCons (fTup (dCons (fVal (.str "unlike")) (dCons (fBin hAdd (fVar 4) (fLst (dCons (fVar 12) dNil))) dNil))) (dCons (fTup (dCons (fVal (.str "unlike")) (dCons (fBin hAdd (fBin hMulL (fLst (dCons (fVar 12) dNil)) (fVal (.int 5))) (fLst (dCons (fVar 6) dNil))) dNil))) dNil))))
  (sCons (sSet 13 (fBin hAdd (fVar 13) (fLst (dCons (fTup (dCons (fVal (.str "many")) (dCons (fBin hMulL (fLst (dCons (fVar 12) dNil)) (fVal (.int 5))) dNil))) (dCons (fTup (dCons (fVal (.str "told")) (dCons (fBin hMulL (fLst (dCons (fVar 12) dNil)) (fVal (.int 4))) dNil))) dNil)))))
  (sCons (sDrop (fMt 13 hApp (dCons (fTup (dCons (fVal (.str "change")) (dCons (fBin hAdd (fVar 4) (fLst (dCons (fVar 12) (dCons (fVar 7) dNil)))) dNil))) dNil)))
  (sCons (sDrop (fMt 13 hApp (dCons (fTup (dCons (fVal (.str "change")) (dCons (fBin hAdd (fBin hMulL (fLst (dCons (fVar 12) dNil)) (fVal (.int 5))) (fLst (dCons (fVar 7) dNil))) dNil))) dNil)))
  (sCons (sDrop (fMt 13 hApp (dCons (fTup (dCons (fVal (.str "change")) (dCons (fBin hAdd (fBin hAdd (fLst (dCons (fVar 7) dNil)) (fBin hMulL (fLst (dCons (fVar 12) dNil)) (fVal (.int 5)))) (fVar 4)) dNil))) dNil)))
  (sFor (fiS (fD (fVar 13))) (kTup 2 (kCons (kName 14) (kCons (kName 10) kNil))) (sCons (sSet 11 (fNm hReprM (fCons (fVar 10) fNil)))
  (sIf (fOr (fB (fBin hNe (fCall d_said (aCons (fVar 10) aNil)) (fVar 14))) (fB (fBin hNe (fNm hReprM (fCons (fVar 10) fNil)) (fVar 11)))) (sRet (fVal (.bool false))) sNil))))))))))))))))))))
theorem fold_small : ∀ (cs : List Ch) (a : List D × List Int), (∀ c ∈ cs, ChOk c) → (∀ x ∈ a.1, noB x = true ∧ dpth 1 x = true) → ∀ x ∈ (cs.foldl catC a).1, noB x = true ∧ dpth 1 x = true
  | [], a, _, h => h
  | c :: cs, a, hc, h => by
    rw [List.foldl_cons]
    refine fold_small cs _ (fun x hx => hc x (List.mem_cons_of_mem _ hx)) fun x hx => ?_
    rcases List.mem_append.mp hx with hx | hx
    · exact h x hx
    · obtain ⟨p, q, s, rfl, _⟩ := (hc c List.mem_cons_self).bl x hx
      exact ⟨noB_tup3 p q s, by simp [dpth, dpths]⟩
theorem noB_ch {r : Int} {xs : List D} {l : List Int} (h : ∀ x ∈ xs, noB x = true ∧ dpth 1 x = true) : noB (chD r xs l) = true ∧ dpth 3 (chD r xs l) = true := by
  have h1 : noBs xs = true := noBs_of fun x hx => (h x hx).1
  have h2 : dpths 1 xs = true := dpths_of fun x hx => (h x hx).2
  constructor
  · show noB (.tuple [.int r, .tuple xs, .tuple (l.map PyData.int)]) = true
    simp only [noB, noBs, h1, noBs_ints, Bool.and_self]
  · show dpth 3 (.tuple [.int r, .tuple xs, .tuple (l.map PyData.int)]) = true
    simp only [dpth, dpths, h2, dpths_ints, Bool.and_self]
theorem body_ok (ns : List Int) (hb : Bit20 ns) (x : Nat) (hx : x ≤ 6) (S : Nat → Sl) : ∃ U : Nat → Sl, body82 [.dat (.dict [(.none, .list (ns.map PyData.int))]), .dat (.int (x : Nat)), S 2, S 3, S 4, S 5, S 6, S 7, S 8, S 9, S 10, S 11, S 12, S 13, S 14, .no] =
    some (.nx, [.dat (.dict [(.none, .list (ns.map PyData.int))]), .dat (.int (x : Nat)), U 2, U 3, U 4, U 5, U 6, U 7, U 8, U 9, U 10, U 11, U 12, U 13, U 14, .no]) := by
  obtain ⟨n, eb⟩ := box_ex ns hb x (by omega)
  obtain ⟨n2, d2, hd2, et2⟩ := take_nat n (m := 7) (by decide) (by decide)
  have et2' : d_take [.own 1 (.list [.int n]), .dat (.int 7)] = _ := et2
  obtain ⟨r, hr, er⟩ : ∃ r : Int, okRoot r ∧ atI [PyData.int 0, .int 0, .int 0, .int 2, .int 3, .int 5, .int 7] ((d2 : Nat) : Int) = some (.int r) := by
    have : d2 = 0 ∨ d2 = 1 ∨ d2 = 2 ∨ d2 = 3 ∨ d2 = 4 ∨ d2 = 5 ∨ d2 = 6 := by omega
    rcases this with rfl | rfl | rfl | rfl | rfl | rfl | rfl
    · exact ⟨0, .inl rfl, rfl⟩
    · exact ⟨0, .inl rfl, rfl⟩
    · exact ⟨0, .inl rfl, rfl⟩
    · exact ⟨2, .inr (.inl rfl), rfl⟩
    · exact ⟨3, .inr (.inr (.inl rfl)), rfl⟩
    · exact ⟨5, .inr (.inr (.inr (.inl rfl))), rfl⟩
    · exact ⟨7, .inr (.inr (.inr (.inr rfl))), rfl⟩
  obtain ⟨n3, d3, hd3, et3⟩ := take_nat n2 (m := 4) (by decide) (by decide)
  have et3' : d_take [.own 1 (.list [.int n2]), .dat (.int 4)] = _ := et3
  generalize hsc : (PyData.dict [(.none, .list (ns.map PyData.int))]) = sc at *
  have em : (1 : Int) + ((d3 : Nat) : Int) = ((1 + d3 : Nat) : Int) := by omega
  obtain ⟨n4, ccs, hcl, hG, el⟩ := chs_ex (.dat sc) (.dat (.int (x : Nat))) (S 5) (S 6) (S 7) (S 8) (S 9) (S 10) (S 11) (S 12) (S 13) (S 14) (S 4) hr (1 + d3) (by omega) n3
  obtain ⟨c, cs, rfl⟩ : ∃ c cs, ccs = c :: cs := by
    cases ccs with
    | nil => rw [List.length_nil] at hcl; omega
    | cons c cs => exact ⟨c, cs, rfl⟩
  rw [List.length_cons] at hcl
  have hk : ∀ y ∈ c :: cs, ChOk y := fun y hy => (hG y hy).chok
  have ec := fLc_of (f := fiR1 (dCons (fBin hAdd (fVal (.int 1)) (fCall d_take (aBoxN 2 (aCons (fVal (.int 4)) aNil)))) dNil)) (ds := uptoD (1 + d3)) (fs := [.dat sc, .dat (.int (x : Nat)), .own 0 (.list [.int n2]), .dat (.int r), S 4, S 5, S 6, S 7, S 8, S 9, S 10, S 11, S 12, S 13, S 14, .no]) (fs1 := [.dat sc, .dat (.int (x : Nat)), .own 0 (.list [.int n3]), .dat (.int r), S 4, S 5, S 6, S 7, S 8, S 9, S 10, S 11, S 12, S 13, S 14, .no]) (fiR1_nat (by omega) (by simp only [mkFn, sCons, sSet, sPar, sUnp, sIf, sRet, sRetN, sDrop, sNil, sBrk, sCnt, bndS, bnd, rt, opt, fVar, fVal, fBin, fUn, rd1, rd2, Rv.rd, Sl.rd, fD, fzM, Rv.fz, fCons, fNil, dCons, dNil, aCons, aNil, aBoxN, aBox, fCall, resolve, boxes, bxpos, wb, fNm, rdAll, fTup, fLst, hAdd, hSub, hInt2, hMulL, hLt, hLe, hGt, hGe, hNeg, hAbs, hLen, hInt1, hMax2, hMin2, hIx, fSl, oNone, oSome, hSl, fB, toB, fAnd, fOr, fNot, fAndV, fOrV, fNotV, fChain, kName, kTup, kCons, kNil, slOk, sStore, fMt, mtGo, hApp, hFdiv, hMod, hDivmod, outs, List.length_cons, List.length_nil, List.getElem?_cons_zero, List.getElem?_cons_succ, List.getElem?_nil, List.set_cons_zero, List.set_cons_succ, List.replicate_succ, List.replicate_zero, List.cons_append, List.nil_append, Option.bind_some, Option.map_some, cond_true, cond_false, ite_true, ite_false, Nat.reduceAdd, Nat.reduceSub, Nat.reduceEqDiff, Nat.reduceLeDiff, if_true, if_false, reduceIte, atI_n0, atI_n1, atI_n2, atI_n3, ixN_10, ixN_20, ixN_21, hEq_int, hNe_int, Bool.not_true, decide_true, decide_false, hTuple, sTryK, sRaise, Bool.false_eq_true, Bool.not_false, sz0, sz1, sz2, sz3, sz4, sz5, sz6, sz7, sz8, et3', em])) el
  -- laid side by side
  have hs := sbs_good hk (by rw [List.length_cons]; omega)
  have hroot : ((c :: cs).any fun y => !decide (y.1 = c.1)) = false := List.any_eq_false.mpr fun y hy => by
    rw [decide_eq_true (by rw [(hG y hy).hr, (hG c List.mem_cons_self).hr])]
    decide
  rw [if_neg (by rw [hroot]; decide), if_neg (by
    rw [fold_len]
    have := sum_le3 hk
    rw [List.length_cons] at this
    show ¬ 12 < 0 + _
    omega)] at hs
  have hd := due_eq hk (by omega)
  have hn := fold_small (c :: cs) ([], []) hk (fun y hy => by cases hy)
  obtain ⟨nb1, nb2⟩ := noB_ch (r := c.1) (l := ((c :: cs).foldl catC ([], [])).2) hn
  have ne1 := ne_refl nb1 nb2 (by decide)
  have nbl : ∀ y ∈ (c :: cs).map chC, noB y = true ∧ dpth 3 y = true := fun y hy => by
    obtain ⟨z, hz, rfl⟩ := List.mem_map.mp hy
    exact noB_ch fun w hw => by
      obtain ⟨p, q, s, rfl, _⟩ := (hk z hz).bl w hw
      exact ⟨noB_tup3 p q s, by simp [dpth, dpths]⟩
  have ne2 : hNe (.list ((c :: cs).map chC)) (.list ((c :: cs).map chC)) = some (.val (.bool false)) := ne_refl (k := 4) (by simp only [noB]; exact noBs_of fun y hy => (nbl y hy).1) (by simp only [dpth]; exact dpths_of fun y hy => (nbl y hy).2) (by decide)
  obtain ⟨n5, e, he, eo⟩ := odd_ex n4
  obtain ⟨n6, p, hp, et6⟩ := take_nat n5 (m := ((c :: cs).map chC).length + 1) (by omega) (by rw [List.length_map, List.length_cons]; omega)
  have et6' : d_take [.own 1 (.list [.int n5]), .dat (.int (((((c :: cs).map chC).length : Nat) : Int) + 1))] = _ := et6
  have hbad := bad_ask (p := p) hG (by omega) he
  have hthg := thg_ask hG (by omega) he
  obtain ⟨a10, a11, eL1⟩ := bad_loop (.dat sc) (.dat (.int (x : Nat))) (.own 0 (.list [.int n6])) (.dat (.int r)) (.dat (.list ((c :: cs).map chC))) (.dat (.list ((c :: cs).map chC))) (.dat (chC c)) (.dat e) (.dat (.int (p : Nat))) (.dat (.list (badL c cs e p))) (S 12) (S 13) (S 14) .no (badL c cs e p) (S 10) (S 11) hbad
  obtain ⟨b10, b11, b14, eL2⟩ := thg_loop (.dat sc) (.dat (.int (x : Nat))) (.own 0 (.list [.int n6])) (.dat (.int r)) (.dat (.list ((c :: cs).map chC))) (.dat (.list ((c :: cs).map chC))) (.dat (chC c)) (.dat e) (.dat (.int (p : Nat))) (.dat (.list (badL c cs e p))) (.dat (chC oC)) (.dat (.list ((thgL c cs e).map fun d => .tuple [.str d.1, d.2]))) .no (thgL c cs e) a10 a11 (S 14) hthg
  refine ⟨fun i => match i with
    | 2 => .own 0 (.list [.int n6]) | 3 => .dat (.int r) | 4 => .dat (.list ((c :: cs).map chC)) | 5 => .dat (.list ((c :: cs).map chC)) | 6 => .dat (chC c) | 7 => .dat e | 8 => .dat (.int (p : Nat)) | 9 => .dat (.list (badL c cs e p)) | 10 => b10 | 11 => b11 | 12 => .dat (chC oC) | 13 => .dat (.list ((thgL c cs e).map fun d => .tuple [.str d.1, d.2])) | _ => b14, ?_⟩
  show body82 [.dat sc, .dat (.int (x : Nat)), S 2, S 3, S 4, S 5, S 6, S 7, S 8, S 9, S 10, S 11, S 12, S 13, S 14, .no] = some (.nx, [.dat sc, .dat (.int (x : Nat)), .own 0 (.list [.int n6]), .dat (.int r), .dat (.list ((c :: cs).map chC)), .dat (.list ((c :: cs).map chC)), .dat (chC c), .dat e, .dat (.int (p : Nat)), .dat (.list (badL c cs e p)), b10, b11, .dat (chC oC), .dat (.list ((thgL c cs e).map fun d => .tuple [.str d.1, d.2])), b14, .no])
  have hs0 : ∀ y ∈ c :: cs, y.2.1.length ≤ 3 ∧ y.2.2.length ≤ 3 := fun y hy => ⟨(hk y hy).h3, by rw [ch_len (hk y hy)]; exact (hk y hy).h3⟩
  clear hk hG hn nbl hbad hthg el
  have i0 : atI ((c :: cs).map chC) 0 = some (chC c) := by rw [show (0 : Int) = ((0 : Nat) : Int) from rfl, atI_natE]; rfl
  have hcl' : ((c :: cs).map chC).length = 1 + cs.length := by rw [List.length_map, List.length_cons]; omega
  have l1 := cut_len ((c :: cs).map chC) none (some ((p : Nat) : Int))
  have l2 := cut_len ((c :: cs).map chC) (some ((p : Nat) : Int)) none
  -- the list of bad things
  have ebad : badL c cs e p = [.list [], .list (List.replicate 13 (chC c)), .tuple ((c :: cs).map chC), .none, e, .list (cutL ((c :: cs).map chC) none (some ((p : Nat) : Int)) ++ [e] ++ cutL ((c :: cs).map chC) (some ((p : Nat) : Int)) none), chC c] ++ [.list [.tuple [.tuple c.2.1, .tuple (c.2.2.map PyData.int)]], .list [.list [.int c.1, .tuple c.2.1, .tuple (c.2.2.map PyData.int)]]] ++ [.list [.tuple [.int c.1, .tuple c.2.1, .tuple (c.2.2.map PyData.int ++ [.int 0])]], .list [.tuple [.int c.1, .tuple (cutL c.2.1 none (some (-1)) ++ [tup3 0 0 1]), .tuple (c.2.2.map PyData.int)]]] := rfl
  have ethg : ((thgL c cs e).map fun d => PyData.tuple [.str d.1, d.2]) = [.tuple [.str "unlike", .list ((c :: cs).map chC ++ [chC oC])], .tuple [.str "unlike", .list (List.replicate 5 (chC oC) ++ [chC c])]] ++ [.tuple [.str "many", .list (List.replicate 5 (chC oC))], .tuple [.str "told", .list (List.replicate 4 (chC oC))]] ++ [.tuple [.str "change", .list ((c :: cs).map chC ++ [chC oC, e])]] ++ [.tuple [.str "change", .list (List.replicate 5 (chC oC) ++ [e])]] ++ [.tuple [.str "change", .list ([e] ++ List.replicate 5 (chC oC) ++ (c :: cs).map chC)]] := rfl
  have lo := cut_len c.2.1 none (some (-1))
  have ez : ∀ k, k ≤ 1000 → (k ≤ sizeLine) = True := fun k hk => eq_true (szl k (by omega))
  have ez' : ∀ k, k ≤ 1000 → (k < sizeLine) = True := fun k hk => eq_true (szl (k + 1) (by omega))
  have hol : (c.2.2.map PyData.int).length ≤ 900 := by
    have := (hs0 c List.mem_cons_self).2
    rw [List.length_map]; omega
  have hll : c.2.1.length ≤ 900 := by
    have := (hs0 c List.mem_cons_self).1
    omega
  have ecut3 : cutL [PyData.int c.1, .tuple c.2.1, .tuple (c.2.2.map PyData.int)] (some 1) none = [.tuple c.2.1, .tuple (c.2.2.map PyData.int)] := rfl
  have z1 := ez ((cutL ((c :: cs).map chC) none (some ((p : Nat) : Int))).length + 1) (by omega)
  have z2 := ez ((cutL ((c :: cs).map chC) none (some ((p : Nat) : Int)) ++ [e]).length + (cutL ((c :: cs).map chC) (some ((p : Nat) : Int)) none).length) (by rw [List.length_append, List.length_singleton]; omega)
  have z3 := ez ((c.2.2.map PyData.int).length + 1) (by omega)
  have z4 := ez ((cutL c.2.1 none (some (-1))).length + 1) (by omega)
  have z5 := ez (((c :: cs).map chC).length + 1) (by omega)
  have z5b := ez (((c :: cs).map chC).length + 2) (by omega)
  have z6 := ez ((List.replicate 5 (chC oC)).length + 1) (by rw [List.length_replicate]; decide)
  have z7 := ez (1 + (List.replicate 5 (chC oC)).length) (by rw [List.length_replicate]; decide)
  have z8 := ez (([e] ++ List.replicate 5 (chC oC)).length + ((c :: cs).map chC).length) (by rw [List.length_append, List.length_singleton, List.length_replicate]; omega)
  rw [ebad] at eL1 eL2 ⊢
  rw [ethg] at eL2 ⊢
  have hC : chC c = .tuple [.int c.1, .tuple c.2.1, .tuple (c.2.2.map PyData.int)] := rfl
  generalize hB1 : [PyData.list [], .list (List.replicate 13 (chC c)), .tuple ((c :: cs).map chC), .none, e, .list (cutL ((c :: cs).map chC) none (some ((p : Nat) : Int)) ++ [e] ++ cutL ((c :: cs).map chC) (some ((p : Nat) : Int)) none), chC c] = B1 at *
  generalize hB2 : [PyData.list [.tuple [.tuple c.2.1, .tuple (c.2.2.map PyData.int)]], .list [.list [.int c.1, .tuple c.2.1, .tuple (c.2.2.map PyData.int)]]] = B2 at *
  generalize hB3 : [PyData.list [.tuple [.int c.1, .tuple c.2.1, .tuple (c.2.2.map PyData.int ++ [.int 0])]], .list [.tuple [.int c.1, .tuple (cutL c.2.1 none (some (-1)) ++ [tup3 0 0 1]), .tuple (c.2.2.map PyData.int)]]] = B3 at *
  generalize hT2 : [PyData.tuple [.str "unlike", .list ((c :: cs).map chC ++ [chC oC])], .tuple [.str "unlike", .list (List.replicate 5 (chC oC) ++ [chC c])]] = T2 at *
  generalize hT4 : [PyData.tuple [.str "many", .list (List.replicate 5 (chC oC))], .tuple [.str "told", .list (List.replicate 4 (chC oC))]] = T4 at *
  generalize hT5 : PyData.tuple [.str "change", .list ((c :: cs).map chC ++ [chC oC, e])] = T5 at *
  generalize hT6 : PyData.tuple [.str "change", .list (List.replicate 5 (chC oC) ++ [e])] = T6 at *
  generalize hT7 : PyData.tuple [.str "change", .list ([e] ++ List.replicate 5 (chC oC) ++ (c :: cs).map chC)] = T7 at *
  have y1 := ez (B1.length + B2.length) (by subst hB1 hB2; show (9 : Nat) ≤ 1000; decide)
  have y2 := ez ((B1 ++ B2).length + B3.length) (by subst hB1 hB2 hB3; show (11 : Nat) ≤ 1000; decide)
  have y3 := ez (T2.length + T4.length) (by subst hT2 hT4; show (4 : Nat) ≤ 1000; decide)
  have y4 := ez' (T2 ++ T4).length (by subst hT2 hT4; show (4 : Nat) ≤ 1000; decide)
  have y5 := ez' (T2 ++ T4 ++ [T5]).length (by subst hT2 hT4; show (5 : Nat) ≤ 1000; decide)
  have y6 := ez' (T2 ++ T4 ++ [T5] ++ [T6]).length (by subst hT2 hT4; show (6 : Nat) ≤ 1000; decide)
  have y7 := ez 7 (by decide)
  have y8 := ez B1.length (by subst hB1; show (7 : Nat) ≤ 1000; decide)
  have y9 := ez B2.length (by subst hB2; show (2 : Nat) ≤ 1000; decide)
  have y10 := ez B3.length (by subst hB3; show (2 : Nat) ≤ 1000; decide)
  have y11 := ez T2.length (by subst hT2; show (2 : Nat) ≤ 1000; decide)
  have y12 := ez T4.length (by subst hT4; show (2 : Nat) ≤ 1000; decide)
  have m13' : fBin hMulL (fLst (dCons (fVar 6) dNil)) (fVal (.int 13)) [.dat sc, .dat (.int (x : Nat)), .own 0 (.list [.int n6]), .dat (.int r), .dat (.list ((c :: cs).map chC)), .dat (.list ((c :: cs).map chC)), .dat (chC c), .dat e, .dat (.int (p : Nat)), S 9, S 10, S 11, S 12, S 13, S 14, .no] = _ := mulL_ev rfl (hm13 (chC c))
  have f5' : ∀ s13 : Sl, fBin hMulL (fLst (dCons (fVar 12) dNil)) (fVal (.int 5)) [.dat sc, .dat (.int (x : Nat)), .own 0 (.list [.int n6]), .dat (.int r), .dat (.list ((c :: cs).map chC)), .dat (.list ((c :: cs).map chC)), .dat (chC c), .dat e, .dat (.int (p : Nat)), .dat (.list (B1 ++ B2 ++ B3)), a10, a11, .dat (chC oC), s13, S 14, .no] = some (.inr (.fresh (.list (List.replicate 5 (chC oC)))), [.dat sc, .dat (.int (x : Nat)), .own 0 (.list [.int n6]), .dat (.int r), .dat (.list ((c :: cs).map chC)), .dat (.list ((c :: cs).map chC)), .dat (chC c), .dat e, .dat (.int (p : Nat)), .dat (.list (B1 ++ B2 ++ B3)), a10, a11, .dat (chC oC), s13, S 14, .no]) := fun s13 => mulL_ev rfl (hm5 (chC oC))
  have f4' : ∀ s13 : Sl, fBin hMulL (fLst (dCons (fVar 12) dNil)) (fVal (.int 4)) [.dat sc, .dat (.int (x : Nat)), .own 0 (.list [.int n6]), .dat (.int r), .dat (.list ((c :: cs).map chC)), .dat (.list ((c :: cs).map chC)), .dat (chC c), .dat e, .dat (.int (p : Nat)), .dat (.list (B1 ++ B2 ++ B3)), a10, a11, .dat (chC oC), s13, S 14, .no] = some (.inr (.fresh (.list (List.replicate 4 (chC oC)))), [.dat sc, .dat (.int (x : Nat)), .own 0 (.list [.int n6]), .dat (.int r), .dat (.list ((c :: cs).map chC)), .dat (.list ((c :: cs).map chC)), .dat (chC c), .dat e, .dat (.int (p : Nat)), .dat (.list (B1 ++ B2 ++ B3)), a10, a11, .dat (chC oC), s13, S 14, .no]) := fun s13 => mulL_ev rfl (hm4 (chC oC))
  have st14 : (sSet 12 (fTup (dCons (fVal (.int 11)) (dCons (fBin hMulT (fTup (dCons (fTup (dCons (fVal (.int 1)) (dCons (fVal (.int 0)) (dCons (fVal (.int 1)) dNil)))) dNil)) (fVal (.int 3))) (dCons (fTup (dCons (fVal (.int 2)) (dCons (fVal (.int 1)) (dCons (fVal (.int 0)) dNil)))) dNil))))) [.dat sc, .dat (.int (x : Nat)), .own 0 (.list [.int n6]), .dat (.int r), .dat (.list ((c :: cs).map chC)), .dat (.list ((c :: cs).map chC)), .dat (chC c), .dat e, .dat (.int (p : Nat)), .dat (.list (B1 ++ B2 ++ B3)), a10, a11, S 12, S 13, S 14, .no] = some (.nx, [.dat sc, .dat (.int (x : Nat)), .own 0 (.list [.int n6]), .dat (.int r), .dat (.list ((c :: cs).map chC)), .dat (.list ((c :: cs).map chC)), .dat (chC c), .dat e, .dat (.int (p : Nat)), .dat (.list (B1 ++ B2 ++ B3)), a10, a11, .dat (chC oC), S 13, S 14, .no]) := by
    have m3 : hMulT (.tuple [.tuple [.int 1, .int 0, .int 1]]) (.int 3) = some (.val (.tuple [tup3 1 0 1, tup3 1 0 1, tup3 1 0 1])) := rfl
    generalize (c :: cs).map chC = CL
    have hO : chC oC = .tuple [.int 11, .tuple [tup3 1 0 1, tup3 1 0 1, tup3 1 0 1], .tuple [.int 2, .int 1, .int 0]] := rfl
    generalize chC c = C1
    rw [hO]
    simp only [mkFn, sCons, sSet, sPar, sUnp, sIf, sRet, sRetN, sDrop, sNil, sBrk, sCnt, bndS, bnd, rt, opt, fVar, fVal, fBin, fUn, rd1, rd2, Rv.rd, Sl.rd, fD, fzM, Rv.fz, fCons, fNil, dCons, dNil, aCons, aNil, aBoxN, aBox, fCall, resolve, boxes, bxpos, wb, fNm, rdAll, fTup, fLst, hAdd, hSub, hInt2, hMulL, hLt, hLe, hGt, hGe, hNeg, hAbs, hLen, hInt1, hMax2, hMin2, hIx, fSl, oNone, oSome, hSl, fB, toB, fAnd, fOr, fNot, fAndV, fOrV, fNotV, fChain, kName, kTup, kCons, kNil, slOk, sStore, fMt, mtGo, hApp, hFdiv, hMod, hDivmod, outs, List.length_cons, List.length_nil, List.getElem?_cons_zero, List.getElem?_cons_succ, List.getElem?_nil, List.set_cons_zero, List.set_cons_succ, List.replicate_succ, List.replicate_zero, List.cons_append, List.nil_append, Option.bind_some, Option.map_some, cond_true, cond_false, ite_true, ite_false, Nat.reduceAdd, Nat.reduceSub, Nat.reduceEqDiff, Nat.reduceLeDiff, if_true, if_false, reduceIte, atI_n0, atI_n1, atI_n2, atI_n3, ixN_10, ixN_20, ixN_21, hEq_int, hNe_int, Bool.not_true, decide_true, decide_false, hTuple, sTryK, sRaise, Bool.false_eq_true, Bool.not_false, sz0, sz1, sz2, sz3, sz4, sz5, sz6, sz7, sz8, m3]
  generalize hR5 : List.replicate 5 (chC oC) = R5 at *
  generalize hR4 : List.replicate 4 (chC oC) = R4 at *
  generalize hR13 : List.replicate 13 (chC c) = R13 at *
  generalize hOC : chC oC = OC at *
  generalize hK1 : cutL ((c :: cs).map chC) none (some ((p : Nat) : Int)) = K1 at *
  generalize hK2 : cutL ((c :: cs).map chC) (some ((p : Nat) : Int)) none = K2 at *
  generalize hK3 : cutL c.2.1 none (some (-1)) = K3 at *
  generalize (c :: cs).map chC = CL at *
  generalize chD c.1 ((c :: cs).foldl catC ([], [])).1 ((c :: cs).foldl catC ([], [])).2 = RES at *
  generalize hCC : chC c = C1 at *
  unfold body82
  rw [sCons_nx (fs1 := [.dat sc, .dat (.int (x : Nat)), .own 0 (.list [.int n]), S 3, S 4, S 5, S 6, S 7, S 8, S 9, S 10, S 11, S 12, S 13, S 14, .no]) (by simp only [mkFn, sCons, sSet, sPar, sUnp, sIf, sRet, sRetN, sDrop, sNil, sBrk, sCnt, bndS, bnd, rt, opt, fVar, fVal, fBin, fUn, rd1, rd2, Rv.rd, Sl.rd, fD, fzM, Rv.fz, fCons, fNil, dCons, dNil, aCons, aNil, aBoxN, aBox, fCall, resolve, boxes, bxpos, wb, fNm, rdAll, fTup, fLst, hAdd, hSub, hInt2, hMulL, hLt, hLe, hGt, hGe, hNeg, hAbs, hLen, hInt1, hMax2, hMin2, hIx, fSl, oNone, oSome, hSl, fB, toB, fAnd, fOr, fNot, fAndV, fOrV, fNotV, fChain, kName, kTup, kCons, kNil, slOk, sStore, fMt, mtGo, hApp, hFdiv, hMod, hDivmod, outs, List.length_cons, List.length_nil, List.getElem?_cons_zero, List.getElem?_cons_succ, List.getElem?_nil, List.set_cons_zero, List.set_cons_succ, List.replicate_succ, List.replicate_zero, List.cons_append, List.nil_append, Option.bind_some, Option.map_some, cond_true, cond_false, ite_true, ite_false, Nat.reduceAdd, Nat.reduceSub, Nat.reduceEqDiff, Nat.reduceLeDiff, if_true, if_false, reduceIte, atI_n0, atI_n1, atI_n2, atI_n3, ixN_10, ixN_20, ixN_21, hEq_int, hNe_int, Bool.not_true, decide_true, decide_false, hTuple, sTryK, sRaise, Bool.false_eq_true, Bool.not_false, sz0, sz1, sz2, sz3, sz4, sz5, sz6, sz7, sz8, eb])]
  rw [sCons_nx (fs1 := [.dat sc, .dat (.int (x : Nat)), .own 0 (.list [.int n2]), .dat (.int r), S 4, S 5, S 6, S 7, S 8, S 9, S 10, S 11, S 12, S 13, S 14, .no]) (by
    generalize hRL : [PyData.int 0, .int 0, .int 0, .int 2, .int 3, .int 5, .int 7] = RL at *
    have hl7 : ((RL.length : Nat) : Int) = 7 := by subst hRL; rfl
    have z := ez RL.length (by subst hRL; show (7 : Nat) ≤ 1000; decide)
    simp only [mkFn, sCons, sSet, sPar, sUnp, sIf, sRet, sRetN, sDrop, sNil, sBrk, sCnt, bndS, bnd, rt, opt, fVar, fVal, fBin, fUn, rd1, rd2, Rv.rd, Sl.rd, fD, fzM, Rv.fz, fCons, fNil, dCons, dNil, aCons, aNil, aBoxN, aBox, fCall, resolve, boxes, bxpos, wb, fNm, rdAll, fTup, fLst, hAdd, hSub, hInt2, hMulL, hLt, hLe, hGt, hGe, hNeg, hAbs, hLen, hInt1, hMax2, hMin2, hIx, fSl, oNone, oSome, hSl, fB, toB, fAnd, fOr, fNot, fAndV, fOrV, fNotV, fChain, kName, kTup, kCons, kNil, slOk, sStore, fMt, mtGo, hApp, hFdiv, hMod, hDivmod, outs, List.length_cons, List.length_nil, List.getElem?_cons_zero, List.getElem?_cons_succ, List.getElem?_nil, List.set_cons_zero, List.set_cons_succ, List.replicate_succ, List.replicate_zero, List.cons_append, List.nil_append, Option.bind_some, Option.map_some, cond_true, cond_false, ite_true, ite_false, Nat.reduceAdd, Nat.reduceSub, Nat.reduceEqDiff, Nat.reduceLeDiff, if_true, if_false, reduceIte, atI_n0, atI_n1, atI_n2, atI_n3, ixN_10, ixN_20, ixN_21, hEq_int, hNe_int, Bool.not_true, decide_true, decide_false, hTuple, sTryK, sRaise, Bool.false_eq_true, Bool.not_false, sz0, sz1, sz2, sz3, sz4, sz5, sz6, sz7, sz8, et2', hRL, z, er])]
  rw [sCons_nx (fs1 := [.dat sc, .dat (.int (x : Nat)), .own 0 (.list [.int n4]), .dat (.int r), .own 0 (.list CL), S 5, S 6, S 7, S 8, S 9, S 10, S 11, S 12, S 13, S 14, .no]) (by
    generalize fLc [15] _ _ _ _ = E at ec ⊢
    simp only [mkFn, sCons, sSet, sPar, sUnp, sIf, sRet, sRetN, sDrop, sNil, sBrk, sCnt, bndS, bnd, rt, opt, fVar, fVal, fBin, fUn, rd1, rd2, Rv.rd, Sl.rd, fD, fzM, Rv.fz, fCons, fNil, dCons, dNil, aCons, aNil, aBoxN, aBox, fCall, resolve, boxes, bxpos, wb, fNm, rdAll, fTup, fLst, hAdd, hSub, hInt2, hMulL, hLt, hLe, hGt, hGe, hNeg, hAbs, hLen, hInt1, hMax2, hMin2, hIx, fSl, oNone, oSome, hSl, fB, toB, fAnd, fOr, fNot, fAndV, fOrV, fNotV, fChain, kName, kTup, kCons, kNil, slOk, sStore, fMt, mtGo, hApp, hFdiv, hMod, hDivmod, outs, List.length_cons, List.length_nil, List.getElem?_cons_zero, List.getElem?_cons_succ, List.getElem?_nil, List.set_cons_zero, List.set_cons_succ, List.replicate_succ, List.replicate_zero, List.cons_append, List.nil_append, Option.bind_some, Option.map_some, cond_true, cond_false, ite_true, ite_false, Nat.reduceAdd, Nat.reduceSub, Nat.reduceEqDiff, Nat.reduceLeDiff, if_true, if_false, reduceIte, atI_n0, atI_n1, atI_n2, atI_n3, ixN_10, ixN_20, ixN_21, hEq_int, hNe_int, Bool.not_true, decide_true, decide_false, hTuple, sTryK, sRaise, Bool.false_eq_true, Bool.not_false, sz0, sz1, sz2, sz3, sz4, sz5, sz6, sz7, sz8, ec])]
  rw [sCons_nx (fs1 := [.dat sc, .dat (.int (x : Nat)), .own 0 (.list [.int n4]), .dat (.int r), .own 0 (.list CL), .own 0 (.list CL), S 6, S 7, S 8, S 9, S 10, S 11, S 12, S 13, S 14, .no]) (by simp only [mkFn, sCons, sSet, sPar, sUnp, sIf, sRet, sRetN, sDrop, sNil, sBrk, sCnt, bndS, bnd, rt, opt, fVar, fVal, fBin, fUn, rd1, rd2, Rv.rd, Sl.rd, fD, fzM, Rv.fz, fCons, fNil, dCons, dNil, aCons, aNil, aBoxN, aBox, fCall, resolve, boxes, bxpos, wb, fNm, rdAll, fTup, fLst, hAdd, hSub, hInt2, hMulL, hLt, hLe, hGt, hGe, hNeg, hAbs, hLen, hInt1, hMax2, hMin2, hIx, fSl, oNone, oSome, hSl, fB, toB, fAnd, fOr, fNot, fAndV, fOrV, fNotV, fChain, kName, kTup, kCons, kNil, slOk, sStore, fMt, mtGo, hApp, hFdiv, hMod, hDivmod, outs, List.length_cons, List.length_nil, List.getElem?_cons_zero, List.getElem?_cons_succ, List.getElem?_nil, List.set_cons_zero, List.set_cons_succ, List.replicate_succ, List.replicate_zero, List.cons_append, List.nil_append, Option.bind_some, Option.map_some, cond_true, cond_false, ite_true, ite_false, Nat.reduceAdd, Nat.reduceSub, Nat.reduceEqDiff, Nat.reduceLeDiff, if_true, if_false, reduceIte, atI_n0, atI_n1, atI_n2, atI_n3, ixN_10, ixN_20, ixN_21, hEq_int, hNe_int, Bool.not_true, decide_true, decide_false, hTuple, sTryK, sRaise, Bool.false_eq_true, Bool.not_false, sz0, sz1, sz2, sz3, sz4, sz5, sz6, sz7, sz8, hList])]
  rw [sCons_nx (fs1 := [.dat sc, .dat (.int (x : Nat)), .own 0 (.list [.int n4]), .dat (.int r), .dat (.list CL), .dat (.list CL), S 6, S 7, S 8, S 9, S 10, S 11, S 12, S 13, S 14, .no]) (by simp only [mkFn, sCons, sSet, sPar, sUnp, sIf, sRet, sRetN, sDrop, sNil, sBrk, sCnt, bndS, bnd, rt, opt, fVar, fVal, fBin, fUn, rd1, rd2, Rv.rd, Sl.rd, fD, fzM, Rv.fz, fCons, fNil, dCons, dNil, aCons, aNil, aBoxN, aBox, fCall, resolve, boxes, bxpos, wb, fNm, rdAll, fTup, fLst, hAdd, hSub, hInt2, hMulL, hLt, hLe, hGt, hGe, hNeg, hAbs, hLen, hInt1, hMax2, hMin2, hIx, fSl, oNone, oSome, hSl, fB, toB, fAnd, fOr, fNot, fAndV, fOrV, fNotV, fChain, kName, kTup, kCons, kNil, slOk, sStore, fMt, mtGo, hApp, hFdiv, hMod, hDivmod, outs, List.length_cons, List.length_nil, List.getElem?_cons_zero, List.getElem?_cons_succ, List.getElem?_nil, List.set_cons_zero, List.set_cons_succ, List.replicate_succ, List.replicate_zero, List.cons_append, List.nil_append, Option.bind_some, Option.map_some, cond_true, cond_false, ite_true, ite_false, Nat.reduceAdd, Nat.reduceSub, Nat.reduceEqDiff, Nat.reduceLeDiff, if_true, if_false, reduceIte, atI_n0, atI_n1, atI_n2, atI_n3, ixN_10, ixN_20, ixN_21, hEq_int, hNe_int, Bool.not_true, decide_true, decide_false, hTuple, sTryK, sRaise, Bool.false_eq_true, Bool.not_false, sz0, sz1, sz2, sz3, sz4, sz5, sz6, sz7, sz8, hs, hd, ne1, ne2])]
  rw [sCons_nx (fs1 := [.dat sc, .dat (.int (x : Nat)), .own 0 (.list [.int n4]), .dat (.int r), .dat (.list CL), .dat (.list CL), .dat C1, S 7, S 8, S 9, S 10, S 11, S 12, S 13, S 14, .no]) (by simp only [mkFn, sCons, sSet, sPar, sUnp, sIf, sRet, sRetN, sDrop, sNil, sBrk, sCnt, bndS, bnd, rt, opt, fVar, fVal, fBin, fUn, rd1, rd2, Rv.rd, Sl.rd, fD, fzM, Rv.fz, fCons, fNil, dCons, dNil, aCons, aNil, aBoxN, aBox, fCall, resolve, boxes, bxpos, wb, fNm, rdAll, fTup, fLst, hAdd, hSub, hInt2, hMulL, hLt, hLe, hGt, hGe, hNeg, hAbs, hLen, hInt1, hMax2, hMin2, hIx, fSl, oNone, oSome, hSl, fB, toB, fAnd, fOr, fNot, fAndV, fOrV, fNotV, fChain, kName, kTup, kCons, kNil, slOk, sStore, fMt, mtGo, hApp, hFdiv, hMod, hDivmod, outs, List.length_cons, List.length_nil, List.getElem?_cons_zero, List.getElem?_cons_succ, List.getElem?_nil, List.set_cons_zero, List.set_cons_succ, List.replicate_succ, List.replicate_zero, List.cons_append, List.nil_append, Option.bind_some, Option.map_some, cond_true, cond_false, ite_true, ite_false, Nat.reduceAdd, Nat.reduceSub, Nat.reduceEqDiff, Nat.reduceLeDiff, if_true, if_false, reduceIte, atI_n0, atI_n1, atI_n2, atI_n3, ixN_10, ixN_20, ixN_21, hEq_int, hNe_int, Bool.not_true, decide_true, decide_false, hTuple, sTryK, sRaise, Bool.false_eq_true, Bool.not_false, sz0, sz1, sz2, sz3, sz4, sz5, sz6, sz7, sz8, i0])]
  rw [sCons_nx (fs1 := [.dat sc, .dat (.int (x : Nat)), .own 0 (.list [.int n5]), .dat (.int r), .dat (.list CL), .dat (.list CL), .dat C1, .dat e, S 8, S 9, S 10, S 11, S 12, S 13, S 14, .no]) (by simp only [mkFn, sCons, sSet, sPar, sUnp, sIf, sRet, sRetN, sDrop, sNil, sBrk, sCnt, bndS, bnd, rt, opt, fVar, fVal, fBin, fUn, rd1, rd2, Rv.rd, Sl.rd, fD, fzM, Rv.fz, fCons, fNil, dCons, dNil, aCons, aNil, aBoxN, aBox, fCall, resolve, boxes, bxpos, wb, fNm, rdAll, fTup, fLst, hAdd, hSub, hInt2, hMulL, hLt, hLe, hGt, hGe, hNeg, hAbs, hLen, hInt1, hMax2, hMin2, hIx, fSl, oNone, oSome, hSl, fB, toB, fAnd, fOr, fNot, fAndV, fOrV, fNotV, fChain, kName, kTup, kCons, kNil, slOk, sStore, fMt, mtGo, hApp, hFdiv, hMod, hDivmod, outs, List.length_cons, List.length_nil, List.getElem?_cons_zero, List.getElem?_cons_succ, List.getElem?_nil, List.set_cons_zero, List.set_cons_succ, List.replicate_succ, List.replicate_zero, List.cons_append, List.nil_append, Option.bind_some, Option.map_some, cond_true, cond_false, ite_true, ite_false, Nat.reduceAdd, Nat.reduceSub, Nat.reduceEqDiff, Nat.reduceLeDiff, if_true, if_false, reduceIte, atI_n0, atI_n1, atI_n2, atI_n3, ixN_10, ixN_20, ixN_21, hEq_int, hNe_int, Bool.not_true, decide_true, decide_false, hTuple, sTryK, sRaise, Bool.false_eq_true, Bool.not_false, sz0, sz1, sz2, sz3, sz4, sz5, sz6, sz7, sz8, eo])]
  rw [sCons_nx (fs1 := [.dat sc, .dat (.int (x : Nat)), .own 0 (.list [.int n6]), .dat (.int r), .dat (.list CL), .dat (.list CL), .dat C1, .dat e, .dat (.int (p : Nat)), S 9, S 10, S 11, S 12, S 13, S 14, .no]) (by simp only [mkFn, sCons, sSet, sPar, sUnp, sIf, sRet, sRetN, sDrop, sNil, sBrk, sCnt, bndS, bnd, rt, opt, fVar, fVal, fBin, fUn, rd1, rd2, Rv.rd, Sl.rd, fD, fzM, Rv.fz, fCons, fNil, dCons, dNil, aCons, aNil, aBoxN, aBox, fCall, resolve, boxes, bxpos, wb, fNm, rdAll, fTup, fLst, hAdd, hSub, hInt2, hMulL, hLt, hLe, hGt, hGe, hNeg, hAbs, hLen, hInt1, hMax2, hMin2, hIx, fSl, oNone, oSome, hSl, fB, toB, fAnd, fOr, fNot, fAndV, fOrV, fNotV, fChain, kName, kTup, kCons, kNil, slOk, sStore, fMt, mtGo, hApp, hFdiv, hMod, hDivmod, outs, List.length_cons, List.length_nil, List.getElem?_cons_zero, List.getElem?_cons_succ, List.getElem?_nil, List.set_cons_zero, List.set_cons_succ, List.replicate_succ, List.replicate_zero, List.cons_append, List.nil_append, Option.bind_some, Option.map_some, cond_true, cond_false, ite_true, ite_false, Nat.reduceAdd, Nat.reduceSub, Nat.reduceEqDiff, Nat.reduceLeDiff, if_true, if_false, reduceIte, atI_n0, atI_n1, atI_n2, atI_n3, ixN_10, ixN_20, ixN_21, hEq_int, hNe_int, Bool.not_true, decide_true, decide_false, hTuple, sTryK, sRaise, Bool.false_eq_true, Bool.not_false, sz0, sz1, sz2, sz3, sz4, sz5, sz6, sz7, sz8, et6'])]
  rw [sCons_nx (fs1 := [.dat sc, .dat (.int (x : Nat)), .own 0 (.list [.int n6]), .dat (.int r), .dat (.list CL), .dat (.list CL), .dat C1, .dat e, .dat (.int (p : Nat)), .own 0 (.list B1), S 10, S 11, S 12, S 13, S 14, .no]) (by
    generalize fBin hMulL (fLst (dCons (fVar 6) dNil)) (fVal (.int 13)) = E at m13' ⊢
    simp only [mkFn, sCons, sSet, sPar, sUnp, sIf, sRet, sRetN, sDrop, sNil, sBrk, sCnt, bndS, bnd, rt, opt, fVar, fVal, fBin, fUn, rd1, rd2, Rv.rd, Sl.rd, fD, fzM, Rv.fz, fCons, fNil, dCons, dNil, aCons, aNil, aBoxN, aBox, fCall, resolve, boxes, bxpos, wb, fNm, rdAll, fTup, fLst, hAdd, hSub, hInt2, hMulL, hLt, hLe, hGt, hGe, hNeg, hAbs, hLen, hInt1, hMax2, hMin2, hIx, fSl, oNone, oSome, hSl, fB, toB, fAnd, fOr, fNot, fAndV, fOrV, fNotV, fChain, kName, kTup, kCons, kNil, slOk, sStore, fMt, mtGo, hApp, hFdiv, hMod, hDivmod, outs, List.length_cons, List.length_nil, List.getElem?_cons_zero, List.getElem?_cons_succ, List.getElem?_nil, List.set_cons_zero, List.set_cons_succ, List.replicate_succ, List.replicate_zero, List.cons_append, List.nil_append, Option.bind_some, Option.map_some, cond_true, cond_false, ite_true, ite_false, Nat.reduceAdd, Nat.reduceSub, Nat.reduceEqDiff, Nat.reduceLeDiff, if_true, if_false, reduceIte, atI_n0, atI_n1, atI_n2, atI_n3, ixN_10, ixN_20, ixN_21, hEq_int, hNe_int, Bool.not_true, decide_true, decide_false, hTuple, sTryK, sRaise, Bool.false_eq_true, Bool.not_false, sz0, sz1, sz2, sz3, sz4, sz5, sz6, sz7, sz8, m13', hK1, hK2, z1, z2, hB1, y8, hTuple])]
  rw [sCons_nx (fs1 := [.dat sc, .dat (.int (x : Nat)), .own 0 (.list [.int n6]), .dat (.int r), .dat (.list CL), .dat (.list CL), .dat C1, .dat e, .dat (.int (p : Nat)), .own 0 (.list (B1 ++ B2)), S 10, S 11, S 12, S 13, S 14, .no]) (by
    rw [hC]
    simp only [mkFn, sCons, sSet, sPar, sUnp, sIf, sRet, sRetN, sDrop, sNil, sBrk, sCnt, bndS, bnd, rt, opt, fVar, fVal, fBin, fUn, rd1, rd2, Rv.rd, Sl.rd, fD, fzM, Rv.fz, fCons, fNil, dCons, dNil, aCons, aNil, aBoxN, aBox, fCall, resolve, boxes, bxpos, wb, fNm, rdAll, fTup, fLst, hAdd, hSub, hInt2, hMulL, hLt, hLe, hGt, hGe, hNeg, hAbs, hLen, hInt1, hMax2, hMin2, hIx, fSl, oNone, oSome, hSl, fB, toB, fAnd, fOr, fNot, fAndV, fOrV, fNotV, fChain, kName, kTup, kCons, kNil, slOk, sStore, fMt, mtGo, hApp, hFdiv, hMod, hDivmod, outs, List.length_cons, List.length_nil, List.getElem?_cons_zero, List.getElem?_cons_succ, List.getElem?_nil, List.set_cons_zero, List.set_cons_succ, List.replicate_succ, List.replicate_zero, List.cons_append, List.nil_append, Option.bind_some, Option.map_some, cond_true, cond_false, ite_true, ite_false, Nat.reduceAdd, Nat.reduceSub, Nat.reduceEqDiff, Nat.reduceLeDiff, if_true, if_false, reduceIte, atI_n0, atI_n1, atI_n2, atI_n3, ixN_10, ixN_20, ixN_21, hEq_int, hNe_int, Bool.not_true, decide_true, decide_false, hTuple, sTryK, sRaise, Bool.false_eq_true, Bool.not_false, sz0, sz1, sz2, sz3, sz4, sz5, sz6, sz7, sz8, ecut3, hB2, y9, y1, hList])]
  rw [sCons_nx (fs1 := [.dat sc, .dat (.int (x : Nat)), .own 0 (.list [.int n6]), .dat (.int r), .dat (.list CL), .dat (.list CL), .dat C1, .dat e, .dat (.int (p : Nat)), .own 0 (.list (B1 ++ B2 ++ B3)), S 10, S 11, S 12, S 13, S 14, .no]) (by
    rw [hC]
    generalize c.2.2.map PyData.int = OO at *
    simp only [mkFn, sCons, sSet, sPar, sUnp, sIf, sRet, sRetN, sDrop, sNil, sBrk, sCnt, bndS, bnd, rt, opt, fVar, fVal, fBin, fUn, rd1, rd2, Rv.rd, Sl.rd, fD, fzM, Rv.fz, fCons, fNil, dCons, dNil, aCons, aNil, aBoxN, aBox, fCall, resolve, boxes, bxpos, wb, fNm, rdAll, fTup, fLst, hAdd, hSub, hInt2, hMulL, hLt, hLe, hGt, hGe, hNeg, hAbs, hLen, hInt1, hMax2, hMin2, hIx, fSl, oNone, oSome, hSl, fB, toB, fAnd, fOr, fNot, fAndV, fOrV, fNotV, fChain, kName, kTup, kCons, kNil, slOk, sStore, fMt, mtGo, hApp, hFdiv, hMod, hDivmod, outs, List.length_cons, List.length_nil, List.getElem?_cons_zero, List.getElem?_cons_succ, List.getElem?_nil, List.set_cons_zero, List.set_cons_succ, List.replicate_succ, List.replicate_zero, List.cons_append, List.nil_append, Option.bind_some, Option.map_some, cond_true, cond_false, ite_true, ite_false, Nat.reduceAdd, Nat.reduceSub, Nat.reduceEqDiff, Nat.reduceLeDiff, if_true, if_false, reduceIte, atI_n0, atI_n1, atI_n2, atI_n3, ixN_10, ixN_20, ixN_21, hEq_int, hNe_int, Bool.not_true, decide_true, decide_false, hTuple, sTryK, sRaise, Bool.false_eq_true, Bool.not_false, sz0, sz1, sz2, sz3, sz4, sz5, sz6, sz7, sz8, z3, z4, hK3, hB3, y10, y2])]
  rw [sCons_nx (fs1 := [.dat sc, .dat (.int (x : Nat)), .own 0 (.list [.int n6]), .dat (.int r), .dat (.list CL), .dat (.list CL), .dat C1, .dat e, .dat (.int (p : Nat)), .dat (.list (B1 ++ B2 ++ B3)), a10, a11, S 12, S 13, S 14, .no]) (by
    rw [sFor_of (fs1 := [.dat sc, .dat (.int (x : Nat)), .own 0 (.list [.int n6]), .dat (.int r), .dat (.list CL), .dat (.list CL), .dat C1, .dat e, .dat (.int (p : Nat)), .dat (.list (B1 ++ B2 ++ B3)), S 10, S 11, S 12, S 13, S 14, .no]) (ds := B1 ++ B2 ++ B3) (by simp only [fiS, asS, mkFn, sCons, sSet, sPar, sUnp, sIf, sRet, sRetN, sDrop, sNil, sBrk, sCnt, bndS, bnd, rt, opt, fVar, fVal, fBin, fUn, rd1, rd2, Rv.rd, Sl.rd, fD, fzM, Rv.fz, fCons, fNil, dCons, dNil, aCons, aNil, aBoxN, aBox, fCall, resolve, boxes, bxpos, wb, fNm, rdAll, fTup, fLst, hAdd, hSub, hInt2, hMulL, hLt, hLe, hGt, hGe, hNeg, hAbs, hLen, hInt1, hMax2, hMin2, hIx, fSl, oNone, oSome, hSl, fB, toB, fAnd, fOr, fNot, fAndV, fOrV, fNotV, fChain, kName, kTup, kCons, kNil, slOk, sStore, fMt, mtGo, hApp, hFdiv, hMod, hDivmod, outs, List.length_cons, List.length_nil, List.getElem?_cons_zero, List.getElem?_cons_succ, List.getElem?_nil, List.set_cons_zero, List.set_cons_succ, List.replicate_succ, List.replicate_zero, List.cons_append, List.nil_append, Option.bind_some, Option.map_some, cond_true, cond_false, ite_true, ite_false, Nat.reduceAdd, Nat.reduceSub, Nat.reduceEqDiff, Nat.reduceLeDiff, if_true, if_false, reduceIte, atI_n0, atI_n1, atI_n2, atI_n3, ixN_10, ixN_20, ixN_21, hEq_int, hNe_int, Bool.not_true, decide_true, decide_false, hTuple, sTryK, sRaise, Bool.false_eq_true, Bool.not_false, sz0, sz1, sz2, sz3, sz4, sz5, sz6, sz7, sz8])]
    exact eL1)]
  rw [sCons_nx st14]
  rw [sCons_nx (fs1 := [.dat sc, .dat (.int (x : Nat)), .own 0 (.list [.int n6]), .dat (.int r), .dat (.list CL), .dat (.list CL), .dat C1, .dat e, .dat (.int (p : Nat)), .dat (.list (B1 ++ B2 ++ B3)), a10, a11, .dat OC, .own 0 (.list T2), S 14, .no]) (by
    have f := f5' (S 13)
    generalize fBin hMulL (fLst (dCons (fVar 12) dNil)) (fVal (.int 5)) = E at f ⊢
    simp only [mkFn, sCons, sSet, sPar, sUnp, sIf, sRet, sRetN, sDrop, sNil, sBrk, sCnt, bndS, bnd, rt, opt, fVar, fVal, fBin, fUn, rd1, rd2, Rv.rd, Sl.rd, fD, fzM, Rv.fz, fCons, fNil, dCons, dNil, aCons, aNil, aBoxN, aBox, fCall, resolve, boxes, bxpos, wb, fNm, rdAll, fTup, fLst, hAdd, hSub, hInt2, hMulL, hLt, hLe, hGt, hGe, hNeg, hAbs, hLen, hInt1, hMax2, hMin2, hIx, fSl, oNone, oSome, hSl, fB, toB, fAnd, fOr, fNot, fAndV, fOrV, fNotV, fChain, kName, kTup, kCons, kNil, slOk, sStore, fMt, mtGo, hApp, hFdiv, hMod, hDivmod, outs, List.length_cons, List.length_nil, List.getElem?_cons_zero, List.getElem?_cons_succ, List.getElem?_nil, List.set_cons_zero, List.set_cons_succ, List.replicate_succ, List.replicate_zero, List.cons_append, List.nil_append, Option.bind_some, Option.map_some, cond_true, cond_false, ite_true, ite_false, Nat.reduceAdd, Nat.reduceSub, Nat.reduceEqDiff, Nat.reduceLeDiff, if_true, if_false, reduceIte, atI_n0, atI_n1, atI_n2, atI_n3, ixN_10, ixN_20, ixN_21, hEq_int, hNe_int, Bool.not_true, decide_true, decide_false, hTuple, sTryK, sRaise, Bool.false_eq_true, Bool.not_false, sz0, sz1, sz2, sz3, sz4, sz5, sz6, sz7, sz8, f, z5, z6, hT2, y11])]
  rw [sCons_nx (fs1 := [.dat sc, .dat (.int (x : Nat)), .own 0 (.list [.int n6]), .dat (.int r), .dat (.list CL), .dat (.list CL), .dat C1, .dat e, .dat (.int (p : Nat)), .dat (.list (B1 ++ B2 ++ B3)), a10, a11, .dat OC, .own 0 (.list (T2 ++ T4)), S 14, .no]) (by
    have f := f5' (.own 0 (.list T2))
    have g := f4' (.own 0 (.list T2))
    generalize fBin hMulL (fLst (dCons (fVar 12) dNil)) (fVal (.int 5)) = E at f ⊢
    generalize fBin hMulL (fLst (dCons (fVar 12) dNil)) (fVal (.int 4)) = E2 at g ⊢
    simp only [mkFn, sCons, sSet, sPar, sUnp, sIf, sRet, sRetN, sDrop, sNil, sBrk, sCnt, bndS, bnd, rt, opt, fVar, fVal, fBin, fUn, rd1, rd2, Rv.rd, Sl.rd, fD, fzM, Rv.fz, fCons, fNil, dCons, dNil, aCons, aNil, aBoxN, aBox, fCall, resolve, boxes, bxpos, wb, fNm, rdAll, fTup, fLst, hAdd, hSub, hInt2, hMulL, hLt, hLe, hGt, hGe, hNeg, hAbs, hLen, hInt1, hMax2, hMin2, hIx, fSl, oNone, oSome, hSl, fB, toB, fAnd, fOr, fNot, fAndV, fOrV, fNotV, fChain, kName, kTup, kCons, kNil, slOk, sStore, fMt, mtGo, hApp, hFdiv, hMod, hDivmod, outs, List.length_cons, List.length_nil, List.getElem?_cons_zero, List.getElem?_cons_succ, List.getElem?_nil, List.set_cons_zero, List.set_cons_succ, List.replicate_succ, List.replicate_zero, List.cons_append, List.nil_append, Option.bind_some, Option.map_some, cond_true, cond_false, ite_true, ite_false, Nat.reduceAdd, Nat.reduceSub, Nat.reduceEqDiff, Nat.reduceLeDiff, if_true, if_false, reduceIte, atI_n0, atI_n1, atI_n2, atI_n3, ixN_10, ixN_20, ixN_21, hEq_int, hNe_int, Bool.not_true, decide_true, decide_false, hTuple, sTryK, sRaise, Bool.false_eq_true, Bool.not_false, sz0, sz1, sz2, sz3, sz4, sz5, sz6, sz7, sz8, f, g, hT4, y12, y3])]
  rw [sCons_nx (fs1 := [.dat sc, .dat (.int (x : Nat)), .own 0 (.list [.int n6]), .dat (.int r), .dat (.list CL), .dat (.list CL), .dat C1, .dat e, .dat (.int (p : Nat)), .dat (.list (B1 ++ B2 ++ B3)), a10, a11, .dat OC, .own 0 (.list (T2 ++ T4 ++ [T5])), S 14, .no]) (by
    simp only [mkFn, sCons, sSet, sPar, sUnp, sIf, sRet, sRetN, sDrop, sNil, sBrk, sCnt, bndS, bnd, rt, opt, fVar, fVal, fBin, fUn, rd1, rd2, Rv.rd, Sl.rd, fD, fzM, Rv.fz, fCons, fNil, dCons, dNil, aCons, aNil, aBoxN, aBox, fCall, resolve, boxes, bxpos, wb, fNm, rdAll, fTup, fLst, hAdd, hSub, hInt2, hMulL, hLt, hLe, hGt, hGe, hNeg, hAbs, hLen, hInt1, hMax2, hMin2, hIx, fSl, oNone, oSome, hSl, fB, toB, fAnd, fOr, fNot, fAndV, fOrV, fNotV, fChain, kName, kTup, kCons, kNil, slOk, sStore, fMt, mtGo, hApp, hFdiv, hMod, hDivmod, outs, List.length_cons, List.length_nil, List.getElem?_cons_zero, List.getElem?_cons_succ, List.getElem?_nil, List.set_cons_zero, List.set_cons_succ, List.replicate_succ, List.replicate_zero, List.cons_append, List.nil_append, Option.bind_some, Option.map_some, cond_true, cond_false, ite_true, ite_false, Nat.reduceAdd, Nat.reduceSub, Nat.reduceEqDiff, Nat.reduceLeDiff, if_true, if_false, reduceIte, atI_n0, atI_n1, atI_n2, atI_n3, ixN_10, ixN_20, ixN_21, hEq_int, hNe_int, Bool.not_true, decide_true, decide_false, hTuple, sTryK, sRaise, Bool.false_eq_true, Bool.not_false, sz0, sz1, sz2, sz3, sz4, sz5, sz6, sz7, sz8, z5b, hT5, y4])]
  rw [sCons_nx (fs1 := [.dat sc, .dat (.int (x : Nat)), .own 0 (.list [.int n6]), .dat (.int r), .dat (.list CL), .dat (.list CL), .dat C1, .dat e, .dat (.int (p : Nat)), .dat (.list (B1 ++ B2 ++ B3)), a10, a11, .dat OC, .own 0 (.list (T2 ++ T4 ++ [T5] ++ [T6])), S 14, .no]) (by
    have f := f5' (.own 0 (.list (T2 ++ T4 ++ [T5])))
    generalize fBin hMulL (fLst (dCons (fVar 12) dNil)) (fVal (.int 5)) = E at f ⊢
    generalize T2 ++ T4 ++ [T5] = TT at *
    simp only [mkFn, sCons, sSet, sPar, sUnp, sIf, sRet, sRetN, sDrop, sNil, sBrk, sCnt, bndS, bnd, rt, opt, fVar, fVal, fBin, fUn, rd1, rd2, Rv.rd, Sl.rd, fD, fzM, Rv.fz, fCons, fNil, dCons, dNil, aCons, aNil, aBoxN, aBox, fCall, resolve, boxes, bxpos, wb, fNm, rdAll, fTup, fLst, hAdd, hSub, hInt2, hMulL, hLt, hLe, hGt, hGe, hNeg, hAbs, hLen, hInt1, hMax2, hMin2, hIx, fSl, oNone, oSome, hSl, fB, toB, fAnd, fOr, fNot, fAndV, fOrV, fNotV, fChain, kName, kTup, kCons, kNil, slOk, sStore, fMt, mtGo, hApp, hFdiv, hMod, hDivmod, outs, List.length_cons, List.length_nil, List.getElem?_cons_zero, List.getElem?_cons_succ, List.getElem?_nil, List.set_cons_zero, List.set_cons_succ, List.replicate_succ, List.replicate_zero, List.cons_append, List.nil_append, Option.bind_some, Option.map_some, cond_true, cond_false, ite_true, ite_false, Nat.reduceAdd, Nat.reduceSub, Nat.reduceEqDiff, Nat.reduceLeDiff, if_true, if_false, reduceIte, atI_n0, atI_n1, atI_n2, atI_n3, ixN_10, ixN_20, ixN_21, hEq_int, hNe_int, Bool.not_true, decide_true, decide_false, hTuple, sTryK, sRaise, Bool.false_eq_true, Bool.not_false, sz0, sz1, sz2, sz3, sz4, sz5, sz6, sz7, sz8, f, z6, hT6, y5])]
  rw [sCons_nx (fs1 := [.dat sc, .dat (.int (x : Nat)), .own 0 (.list [.int n6]), .dat (.int r), .dat (.list CL), .dat (.list CL), .dat C1, .dat e, .dat (.int (p : Nat)), .dat (.list (B1 ++ B2 ++ B3)), a10, a11, .dat OC, .own 0 (.list (T2 ++ T4 ++ [T5] ++ [T6] ++ [T7])), S 14, .no]) (by
    have f := f5' (.own 0 (.list (T2 ++ T4 ++ [T5] ++ [T6])))
    generalize fBin hMulL (fLst (dCons (fVar 12) dNil)) (fVal (.int 5)) = E at f ⊢
    generalize T2 ++ T4 ++ [T5] ++ [T6] = TT at *
    have z7' : (1 + R5.length ≤ sizeLine) = True := z7
    have z8' : (R5.length + 1 + CL.length ≤ sizeLine) = True := by
      have := z8
      rw [List.length_append, List.length_singleton, Nat.add_comm 1] at this
      exact this
    have hT7' : PyData.tuple [.str "change", .list (e :: (R5 ++ CL))] = T7 := hT7
    simp only [mkFn, sCons, sSet, sPar, sUnp, sIf, sRet, sRetN, sDrop, sNil, sBrk, sCnt, bndS, bnd, rt, opt, fVar, fVal, fBin, fUn, rd1, rd2, Rv.rd, Sl.rd, fD, fzM, Rv.fz, fCons, fNil, dCons, dNil, aCons, aNil, aBoxN, aBox, fCall, resolve, boxes, bxpos, wb, fNm, rdAll, fTup, fLst, hAdd, hSub, hInt2, hMulL, hLt, hLe, hGt, hGe, hNeg, hAbs, hLen, hInt1, hMax2, hMin2, hIx, fSl, oNone, oSome, hSl, fB, toB, fAnd, fOr, fNot, fAndV, fOrV, fNotV, fChain, kName, kTup, kCons, kNil, slOk, sStore, fMt, mtGo, hApp, hFdiv, hMod, hDivmod, outs, List.length_cons, List.length_nil, List.getElem?_cons_zero, List.getElem?_cons_succ, List.getElem?_nil, List.set_cons_zero, List.set_cons_succ, List.replicate_succ, List.replicate_zero, List.cons_append, List.nil_append, Option.bind_some, Option.map_some, cond_true, cond_false, ite_true, ite_false, Nat.reduceAdd, Nat.reduceSub, Nat.reduceEqDiff, Nat.reduceLeDiff, if_true, if_false, reduceIte, atI_n0, atI_n1, atI_n2, atI_n3, ixN_10, ixN_20, ixN_21, hEq_int, hNe_int, Bool.not_true, decide_true, decide_false, hTuple, sTryK, sRaise, Bool.false_eq_true, Bool.not_false, sz0, sz1, sz2, sz3, sz4, sz5, sz6, sz7, sz8, f, z7', z8', hT7', y6])]
  rw [sFor_of (fs1 := [.dat sc, .dat (.int (x : Nat)), .own 0 (.list [.int n6]), .dat (.int r), .dat (.list CL), .dat (.list CL), .dat C1, .dat e, .dat (.int (p : Nat)), .dat (.list (B1 ++ B2 ++ B3)), a10, a11, .dat OC, .dat (.list (T2 ++ T4 ++ [T5] ++ [T6] ++ [T7])), S 14, .no]) (ds := T2 ++ T4 ++ [T5] ++ [T6] ++ [T7]) (by simp only [fiS, asS, mkFn, sCons, sSet, sPar, sUnp, sIf, sRet, sRetN, sDrop, sNil, sBrk, sCnt, bndS, bnd, rt, opt, fVar, fVal, fBin, fUn, rd1, rd2, Rv.rd, Sl.rd, fD, fzM, Rv.fz, fCons, fNil, dCons, dNil, aCons, aNil, aBoxN, aBox, fCall, resolve, boxes, bxpos, wb, fNm, rdAll, fTup, fLst, hAdd, hSub, hInt2, hMulL, hLt, hLe, hGt, hGe, hNeg, hAbs, hLen, hInt1, hMax2, hMin2, hIx, fSl, oNone, oSome, hSl, fB, toB, fAnd, fOr, fNot, fAndV, fOrV, fNotV, fChain, kName, kTup, kCons, kNil, slOk, sStore, fMt, mtGo, hApp, hFdiv, hMod, hDivmod, outs, List.length_cons, List.length_nil, List.getElem?_cons_zero, List.getElem?_cons_succ, List.getElem?_nil, List.set_cons_zero, List.set_cons_succ, List.replicate_succ, List.replicate_zero, List.cons_append, List.nil_append, Option.bind_some, Option.map_some, cond_true, cond_false, ite_true, ite_false, Nat.reduceAdd, Nat.reduceSub, Nat.reduceEqDiff, Nat.reduceLeDiff, if_true, if_false, reduceIte, atI_n0, atI_n1, atI_n2, atI_n3, ixN_10, ixN_20, ixN_21, hEq_int, hNe_int, Bool.not_true, decide_true, decide_false, hTuple, sTryK, sRaise, Bool.false_eq_true, Bool.not_false, sz0, sz1, sz2, sz3, sz4, sz5, sz6, sz7, sz8])]
  exact eL2
theorem den_law (ns : List Int) (hb : Bit20 ns) : d_law (scrD ns) = some (.inr (false, .bool true), [.no]) := by
  generalize hN : (if (1 : Int) < (if ((ns.map PyData.int).length : Int) > 6 then 6 else ((ns.map PyData.int).length : Int)) then (if ((ns.map PyData.int).length : Int) > 6 then 6 else ((ns.map PyData.int).length : Int)) else 1) = N
  obtain ⟨k, hk, hk2⟩ : ∃ k : Nat, N = (k : Nat) ∧ k ≤ 6 := ⟨N.toNat, by split at hN <;> split at hN <;> omega, by split at hN <;> split at hN <;> omega⟩
  have hx := forL_ind (g := kName 1) (b := body82)
    (fun _ fs => ∃ (S1 : Sl) (S : Nat → Sl), fs = [.dat (.dict [(.none, .list (ns.map PyData.int))]), S1, S 2, S 3, S 4, S 5, S 6, S 7, S 8, S 9, S 10, S 11, S 12, S 13, S 14, .no]) ((upto k).map PyData.int) 0 [.dat (.dict [(.none, .list (ns.map PyData.int))]), .no, .no, .no, .no, .no, .no, .no, .no, .no, .no, .no, .no, .no, .no, .no] ⟨.no, fun _ => .no, rfl⟩ (by
      rintro i d fs hd ⟨S1, S, rfl⟩
      rw [List.getElem?_map] at hd
      obtain ⟨x, hx, rfl⟩ := Option.map_eq_some_iff.mp hd
      have hx2 := upto_mem.mp (List.mem_of_getElem? hx)
      obtain ⟨y, rfl⟩ : ∃ y : Nat, x = (y : Nat) := ⟨x.toNat, by omega⟩
      obtain ⟨U, e⟩ := body_ok ns hb y (by omega) S
      exact ⟨_, _, rfl, .inl e, _, U, rfl⟩)
  obtain ⟨fs', ef, S1, S, rfl⟩ := hx
  unfold d_law
  refine mkFn_ret rfl ?_ (fs := [.dat (.dict [(.none, .list (ns.map PyData.int))]), S1, S 2, S 3, S 4, S 5, S 6, S 7, S 8, S 9, S 10, S 11, S 12, S 13, S 14, .no])
  rw [sCons_nx (fs1 := [.dat (.dict [(.none, .list (ns.map PyData.int))]), S1, S 2, S 3, S 4, S 5, S 6, S 7, S 8, S 9, S 10, S 11, S 12, S 13, S 14, .no]) (by
    rw [sFor_of (fs1 := [.dat (.dict [(.none, .list (ns.map PyData.int))]), .no, .no, .no, .no, .no, .no, .no, .no, .no, .no, .no, .no, .no, .no, .no]) (ds := (upto k).map PyData.int)]
    · exact ef
    · have h1 : smI ((k : Nat) : Int) = true := smI_of (by omega) (by omega)
      subst hk
      simp only [gt_iff_lt] at hN
      simp only [fiR1, mkFn, sCons, sSet, sPar, sUnp, sIf, sRet, sRetN, sDrop, sNil, sBrk, sCnt, bndS, bnd, rt, opt, fVar, fVal, fBin, fUn, rd1, rd2, Rv.rd, Sl.rd, fD, fzM, Rv.fz, fCons, fNil, dCons, dNil, aCons, aNil, aBoxN, aBox, fCall, resolve, boxes, bxpos, wb, fNm, rdAll, fTup, fLst, hAdd, hSub, hInt2, hMulL, hLt, hLe, hGt, hGe, hNeg, hAbs, hLen, hInt1, hMax2, hMin2, hIx, fSl, oNone, oSome, hSl, fB, toB, fAnd, fOr, fNot, fAndV, fOrV, fNotV, fChain, kName, kTup, kCons, kNil, slOk, sStore, fMt, mtGo, hApp, hFdiv, hMod, hDivmod, outs, List.length_cons, List.length_nil, List.getElem?_cons_zero, List.getElem?_cons_succ, List.getElem?_nil, List.set_cons_zero, List.set_cons_succ, List.replicate_succ, List.replicate_zero, List.cons_append, List.nil_append, Option.bind_some, Option.map_some, cond_true, cond_false, ite_true, ite_false, Nat.reduceAdd, Nat.reduceSub, Nat.reduceEqDiff, Nat.reduceLeDiff, if_true, if_false, reduceIte, atI_n0, atI_n1, atI_n2, atI_n3, ixN_10, ixN_20, ixN_21, hEq_int, hNe_int, Bool.not_true, decide_true, decide_false, hTuple, sTryK, sRaise, Bool.false_eq_true, Bool.not_false, sz0, sz1, sz2, sz3, sz4, sz5, sz6, sz7, sz8, gt_iff_lt, hN, h1, rng_upto, Int.toNat_natCast])]
  simp only [mkFn, sCons, sSet, sPar, sUnp, sIf, sRet, sRetN, sDrop, sNil, sBrk, sCnt, bndS, bnd, rt, opt, fVar, fVal, fBin, fUn, rd1, rd2, Rv.rd, Sl.rd, fD, fzM, Rv.fz, fCons, fNil, dCons, dNil, aCons, aNil, aBoxN, aBox, fCall, resolve, boxes, bxpos, wb, fNm, rdAll, fTup, fLst, hAdd, hSub, hInt2, hMulL, hLt, hLe, hGt, hGe, hNeg, hAbs, hLen, hInt1, hMax2, hMin2, hIx, fSl, oNone, oSome, hSl, fB, toB, fAnd, fOr, fNot, fAndV, fOrV, fNotV, fChain, kName, kTup, kCons, kNil, slOk, sStore, fMt, mtGo, hApp, hFdiv, hMod, hDivmod, outs, List.length_cons, List.length_nil, List.getElem?_cons_zero, List.getElem?_cons_succ, List.getElem?_nil, List.set_cons_zero, List.set_cons_succ, List.replicate_succ, List.replicate_zero, List.cons_append, List.nil_append, Option.bind_some, Option.map_some, cond_true, cond_false, ite_true, ite_false, Nat.reduceAdd, Nat.reduceSub, Nat.reduceEqDiff, Nat.reduceLeDiff, if_true, if_false, reduceIte, atI_n0, atI_n1, atI_n2, atI_n3, ixN_10, ixN_20, ixN_21, hEq_int, hNe_int, Bool.not_true, decide_true, decide_false, hTuple, sTryK, sRaise, Bool.false_eq_true, Bool.not_false, sz0, sz1, sz2, sz3, sz4, sz5, sz6, sz7, sz8]
end Fx.L

open PySem PySem.W PyProof.Rows
set_option maxHeartbeats 0 in
theorem PySem.Challenge.cw_cutexchange_k82_laid_side_by_side_holds : PySem.Challenge.rw_cutexchange_k82_laid_side_by_side.Holds := by
  w_on; o_law; k_head; (case hw => w_witness2)
  k_fill
  refine Fx.law_headG (l := PySem.Challenge.rw_cutexchange_k82_laid_side_by_side) (n := 63) (k := 9) (x := "_law_script") Fx.L.d_law rfl (by decide) rfl ⟨rfl, by decide, by decide⟩ (fun w h Y => PySem.W.kIn_of Y) ?F (fun ns _ hb => Fx.L.den_law ns hb)
  case F =>
    intro w mg fa h KX G hmg
    refine' Fx.L.all_mk KX G hmg ?a0 ?l0 ?c0 ?k0 ?a1 ?l1 ?c1 ?k1 ?a2 ?l2 ?c2 ?k2 ?a3 ?l3 ?c3 ?k3 ?a4 ?l4 ?c4 ?k4 ?a5 ?l5 ?c5 ?k5 ?a6 ?l6 ?c6 ?k6 ?a7 ?l7 ?c7 ?k7 ?a8 ?l8 ?c8 ?k8 ?a9 ?l9 ?c9 ?k9 ?a10 ?l10 ?c10 ?k10 ?a11 ?l11 ?c11 ?k11 ?a12 ?l12 ?c12 ?k12 ?a13 ?l13 ?c13 ?k13 ?a14 ?l14 ?c14 ?k14 ?a15 ?l15 ?c15 ?k15 ?a16 ?l16 ?c16 ?k16 ?a17 ?l17 ?c17 ?k17 ?a18 ?l18 ?c18 ?k18 ?a19 ?l19 ?c19 ?k19 ?a20 ?l20 ?c20 ?k20 ?a21 ?l21 ?c21 ?k21 ?a22 ?l22 ?c22 ?k22 ?a23 ?l23 ?c23 ?k23 ?a24 ?l24 ?c24 ?k24 ?a25 ?l25 ?c25 ?k25 ?yc_NoChange ?yc_NoNumber ?yc_NoPoint ?yc_NoStep ?yc_NoWord ?yc_StretchError ?yc_TooMany ?yc_Unlike ?ye_NoChange ?yq_NoChange ?yk_NoChange ?yb_NoChange ?yt_NoChange ?yx1_NoChange ?yx2_NoChange ?yx4_NoChange ?yx5_NoChange ?yx8_NoChange ?ym_NoChange_StretchError ?yi_NoChange_NoChange ?yi_NoChange_NoNumber ?yi_NoChange_NoPoint ?yi_NoChange_NoStep ?yi_NoChange_NoWord ?yi_NoChange_TooMany ?yi_NoChange_Unlike ?ye_TooMany ?yq_TooMany ?yk_TooMany ?yb_TooMany ?yt_TooMany ?yx1_TooMany ?yx2_TooMany ?yx4_TooMany ?yx5_TooMany ?yx8_TooMany ?ym_TooMany_StretchError ?yi_TooMany_NoChange ?yi_TooMany_NoNumber ?yi_TooMany_NoPoint ?yi_TooMany_NoStep ?yi_TooMany_NoWord ?yi_TooMany_TooMany ?yi_TooMany_Unlike ?ye_Unlike ?yq_Unlike ?yk_Unlike ?yb_Unlike ?yt_Unlike ?yx1_Unlike ?yx2_Unlike ?yx4_Unlike ?yx5_Unlike ?yx8_Unlike ?ym_Unlike_StretchError ?yi_Unlike_NoChange ?yi_Unlike_NoNumber ?yi_Unlike_NoPoint ?yi_Unlike_NoStep ?yi_Unlike_NoWord ?yi_Unlike_TooMany ?yi_Unlike_Unlike ?yx6 ?yx7 ?yg_MOST_PIECES_changes ?yg_MOST_PIECES_parts ?yg_MOST_ROOT ?yg_NOUGHT ?yl_NOUGHT ?z_abs ?z_all ?z_any ?z_bool ?z_divmod ?z_int ?z_isinstance ?z_len ?z_list ?z_max ?z_min ?z_range ?z_repr ?z_sorted ?z_tuple
    (case a0 => k_is)
    (case l0 => k_is)
    (case c0 => k_is)
    (case k0 => k_is)
    (case a1 => k_is)
    (case l1 => k_is)
    (case c1 => k_is)
    (case k1 => k_is)
    (case a2 => k_is)
    (case l2 => k_is)
    (case c2 => k_is)
    (case k2 => k_is)
    (case a3 => k_is)
    (case l3 => k_is)
    (case c3 => k_is)
    (case k3 => k_is)
    (case a4 => k_is)
    (case l4 => k_is)
    (case c4 => k_is)
    (case k4 => k_is)
    (case a5 => k_is)
    (case l5 => k_is)
    (case c5 => k_is)
    (case k5 => k_is)
    (case a6 => k_is)
    (case l6 => k_is)
    (case c6 => k_is)
    (case k6 => k_is)
    (case a7 => k_is)
    (case l7 => k_is)
    (case c7 => k_is)
    (case k7 => k_is)
    (case a8 => k_is)
    (case l8 => k_is)
    (case c8 => k_is)
    (case k8 => k_is)
    (case a9 => k_is)
    (case l9 => k_is)
    (case c9 => k_is)
    (case k9 => k_is)
    (case a10 => k_is)
    (case l10 => k_is)
    (case c10 => k_is)
    (case k10 => k_is)
    (case a11 => k_is)
    (case l11 => k_is)
    (case c11 => k_is)
    (case k11 => k_is)
    (case a12 => k_is)
    (case l12 => k_is)
    (case c12 => k_is)
    (case k12 => k_is)
    (case a13 => k_is)
    (case l13 => k_is)
    (case c13 => k_is)
    (case k13 => k_is)
    (case a14 => k_is)
    (case l14 => k_is)
    (case c14 => k_is)
    (case k14 => k_is)
    (case a15 => k_is)
    (case l15 => k_is)
    (case c15 => k_is)
    (case k15 => k_is)
    (case a16 => k_is)
    (case l16 => k_is)
    (case c16 => k_is)
    (case k16 => k_is)
    (case a17 => k_is)
    (case l17 => k_is)
    (case c17 => k_is)
    (case k17 => k_is)
    (case a18 => k_is)
    (case l18 => k_is)
    (case c18 => k_is)
    (case k18 => k_is)
    (case a19 => k_is)
    (case l19 => k_is)
    (case c19 => k_is)
    (case k19 => k_is)
    (case a20 => k_is)
    (case l20 => k_is)
    (case c20 => k_is)
    (case k20 => k_is)
    (case a21 => k_is)
    (case l21 => k_is)
    (case c21 => k_is)
    (case k21 => k_is)
    (case a22 => k_is)
    (case l22 => k_is)
    (case c22 => k_is)
    (case k22 => k_is)
    (case a23 => k_is)
    (case l23 => k_is)
    (case c23 => k_is)
    (case k23 => k_is)
    (case a24 => k_is)
    (case l24 => k_is)
    (case c24 => k_is)
    (case k24 => k_is)
    (case a25 => k_is)
    (case l25 => k_is)
    (case c25 => k_is)
    (case k25 => k_is)
    (case yc_NoChange => k_is)
    (case yc_NoNumber => k_is)
    (case yc_NoPoint => k_is)
    (case yc_NoStep => k_is)
    (case yc_NoWord => k_is)
    (case yc_StretchError => k_is)
    (case yc_TooMany => k_is)
    (case yc_Unlike => k_is)
    (case ye_NoChange => k_is)
    (case yq_NoChange => k_exc)
    (case yk_NoChange => k_is)
    (case yb_NoChange => k_is)
    (case yt_NoChange => k_is)
    (case yx1_NoChange => k_is)
    (case yx2_NoChange => k_is)
    (case yx4_NoChange => k_is)
    (case yx5_NoChange => k_is)
    (case yx8_NoChange => k_is)
    (case ym_NoChange_StretchError => first | k_is | rfl)
    (case yi_NoChange_NoChange => first | k_is | rfl)
    (case yi_NoChange_NoNumber => first | k_is | rfl)
    (case yi_NoChange_NoPoint => first | k_is | rfl)
    (case yi_NoChange_NoStep => first | k_is | rfl)
    (case yi_NoChange_NoWord => first | k_is | rfl)
    (case yi_NoChange_TooMany => first | k_is | rfl)
    (case yi_NoChange_Unlike => first | k_is | rfl)
    (case ye_TooMany => k_is)
    (case yq_TooMany => k_exc)
    (case yk_TooMany => k_is)
    (case yb_TooMany => k_is)
    (case yt_TooMany => k_is)
    (case yx1_TooMany => k_is)
    (case yx2_TooMany => k_is)
    (case yx4_TooMany => k_is)
    (case yx5_TooMany => k_is)
    (case yx8_TooMany => k_is)
    (case ym_TooMany_StretchError => first | k_is | rfl)
    (case yi_TooMany_NoChange => first | k_is | rfl)
    (case yi_TooMany_NoNumber => first | k_is | rfl)
    (case yi_TooMany_NoPoint => first | k_is | rfl)
    (case yi_TooMany_NoStep => first | k_is | rfl)
    (case yi_TooMany_NoWord => first | k_is | rfl)
    (case yi_TooMany_TooMany => first | k_is | rfl)
    (case yi_TooMany_Unlike => first | k_is | rfl)
    (case ye_Unlike => k_is)
    (case yq_Unlike => k_exc)
    (case yk_Unlike => k_is)
    (case yb_Unlike => k_is)
    (case yt_Unlike => k_is)
    (case yx1_Unlike => k_is)
    (case yx2_Unlike => k_is)
    (case yx4_Unlike => k_is)
    (case yx5_Unlike => k_is)
    (case yx8_Unlike => k_is)
    (case ym_Unlike_StretchError => first | k_is | rfl)
    (case yi_Unlike_NoChange => first | k_is | rfl)
    (case yi_Unlike_NoNumber => first | k_is | rfl)
    (case yi_Unlike_NoPoint => first | k_is | rfl)
    (case yi_Unlike_NoStep => first | k_is | rfl)
    (case yi_Unlike_NoWord => first | k_is | rfl)
    (case yi_Unlike_TooMany => first | k_is | rfl)
    (case yi_Unlike_Unlike => first | k_is | rfl)
    (case yx6 => k_is)
    (case yx7 => k_is)
    (case yg_MOST_PIECES_changes => k_is)
    (case yg_MOST_PIECES_parts => k_is)
    (case yg_MOST_ROOT => k_is)
    (case yg_NOUGHT => k_is)
    (case yl_NOUGHT => k_is)
    (case z_abs => k_is)
    (case z_all => k_is)
    (case z_any => k_is)
    (case z_bool => k_is)
    (case z_divmod => k_is)
    (case z_int => k_is)
    (case z_isinstance => k_is)
    (case z_len => k_is)
    (case z_list => k_is)
    (case z_max => k_is)
    (case z_min => k_is)
    (case z_range => k_is)
    (case z_repr => k_is)
    (case z_sorted => k_is)
    (case z_tuple => k_is)
